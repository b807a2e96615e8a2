import PyProof.Rows.All
import Wide.All
import OpenK.AllK
import Wide.FinOn
import HandS.ForMost
import HandS.Flow
import HandS.Deep
import HandS.TupAny
import HandS.Wide
import HandS.Dict
import HandS.DictComp
import KE.DataCmp
import KE.SortData
import HandS.WordsDict
import HandS.AnyAll
import HandS.Walk
import HandS.GenOver
import HandS.SetBool
import HandS.SetKeys
import PyProof.SumAny
import HandS.Conv
import HandS.IsInst
import PyProof.StrLawsIn
import HandS.Replace
import HandS.Style
import HandS.Steps
import HandS.Small
import HandS.EndOwn
import PySem.Challenge.RW_gardenworks_k07_far_turns_without_growin
set_option Elab.async false
set_option linter.all false
set_option maxRecDepth 100000
/-! The value layer, part 1: data, the small syntax, its meaning. Plain Lean. -/
namespace Gw
open PySem

/-- keys of dicts -/
inductive Ky where
  | i (n : Int) | s (l : List Nat) | t (ks : List (Sum Int (List Nat)))
  deriving DecidableEq

/-- data without places -/
inductive D where
  | non | bl (b : Bool) | int (i : Int) | str (l : List Nat) | lst (ds : List D) | tup (ds : List D) | dct (kvs : List (Ky × D)) | scr (ns : List Int) | adr (a : Nat)

/-- a slot: nothing known, a value, a container that this frame alone holds, one handed in by reference -/
inductive Sl where
  | no | val (d : D) | own (d : D) | ref (d : D)

inductive Res (α : Type) where
  | ok (a : α) | exc (c : Nat) (p : Option D) | stuck
def Res.bind {α β : Type} (x : Res α) (f : α → Res β) : Res β := match x with
  | .ok a => f a
  | .exc c p => .exc c p
  | .stuck => .stuck
@[simp] theorem Res.ok_bind {α β : Type} (a : α) (f : α → Res β) : Res.bind (.ok a) f = f a := rfl
@[simp] theorem Res.stuck_bind {α β : Type} (f : α → Res β) : Res.bind (.stuck : Res α) f = .stuck := rfl
@[simp] theorem Res.exc_bind {α β : Type} (c : Nat) (p : Option D) (f : α → Res β) : Res.bind (.exc c p : Res α) f = .exc c p := rfl
def Res.of {α : Type} : Option α → Res α
  | some a => .ok a
  | none => .stuck
@[simp] theorem Res.of_some {α : Type} (a : α) : Res.of (some a) = .ok a := rfl
@[simp] theorem Res.of_none {α : Type} : Res.of (none : Option α) = .stuck := rfl

abbrev Env := List Sl
def Sl.d? : Sl → Option D
  | .no => none
  | .val d => some d
  | .own d => some d
  | .ref d => some d
/-- what an expression gives -/
inductive Rv where
  | val (d : D) | own (d : D)
def Rv.d : Rv → D
  | .val d => d
  | .own d => d
def Rv.sl : Rv → Sl
  | .val d => .val d
  | .own d => .own d

/-! ### dicts -/
def kyOf : D → Option Ky
  | .int n => some (.i n)
  | .str l => some (.s l)
  | _ => none
def lookK (kvs : List (Ky × D)) (k : Ky) : Option D := (kvs.find? fun kv => decide (kv.1 = k)).map (·.2)
def storeK (kvs : List (Ky × D)) (k : Ky) (v : D) : List (Ky × D) :=
  if (kvs.any fun kv => decide (kv.1 = k)) then kvs.map fun kv => if kv.1 = k then (kv.1, v) else kv else kvs ++ [(k, v)]
/-- keys and values, one behind another -/
def pairsK : List D → Option (List (Ky × D))
  | [] => some []
  | k :: v :: r => match kyOf k, pairsK r with
    | some y, some l => some ((y, v) :: l)
    | _, _ => none
  | _ => none
def mergeD (kvs more : List (Ky × D)) : List (Ky × D) := more.foldl (fun acc kv => storeK acc kv.1 kv.2) kvs

/-! ### operators -/
inductive Bop where | add | sub | mul | fdiv | mod | pow
  deriving DecidableEq
inductive Cop where | eq | ne | lt | le | gt | ge | isin | notin | isnone | notnone
  deriving DecidableEq

mutual
def D.eqb : D → D → Bool
  | .non, .non => true
  | .bl a, .bl b => a == b
  | .int a, .int b => a == b
  | .bl a, .int b => (if a then 1 else 0) == b
  | .int a, .bl b => a == (if b then 1 else 0)
  | .str a, .str b => a == b
  | .lst a, .lst b => D.eqbs a b
  | .tup a, .tup b => D.eqbs a b
  | _, _ => false
def D.eqbs : List D → List D → Bool
  | [], [] => true
  | a :: as, b :: bs => D.eqb a b && D.eqbs as bs
  | _, _ => false
end
mutual
/-- no dict within; its depth -/
def D.plain : D → Bool
  | .str l => l.all fun c => decide (c < 1114112)
  | .lst a => D.plains a
  | .tup a => D.plains a
  | .dct _ => false
  | .scr _ => false
  | .adr _ => false
  | _ => true
def D.plains : List D → Bool
  | [] => true
  | a :: as => D.plain a && D.plains as
end
mutual
def D.depth : D → Nat
  | .lst a => D.depths a + 1
  | .tup a => D.depths a + 1
  | _ => 0
def D.depths : List D → Nat
  | [] => 0
  | a :: as => max (D.depth a) (D.depths as)
end
mutual
/-- no dict within -/
def D.nodct : D → Bool
  | .lst a => D.nodcts a
  | .tup a => D.nodcts a
  | .dct _ => false
  | .scr _ => false
  | .adr _ => false
  | _ => true
def D.nodcts : List D → Bool
  | [] => true
  | a :: as => D.nodct a && D.nodcts as
end
mutual
/-- may be compared place by place -/
def D.alike : D → D → Bool
  | .non, .non => true
  | .bl _, .bl _ => true
  | .int _, .int _ => true
  | .str _, .str _ => true
  | .lst a, .lst b => D.alikes a b
  | .tup a, .tup b => D.alikes a b
  | _, _ => false
def D.alikes : List D → List D → Bool
  | a :: as, b :: bs => D.alike a b && D.alikes as bs
  | _, _ => true
end
def ltL : List Nat → List Nat → Bool
  | _, [] => false
  | [], _ :: _ => true
  | a :: as, b :: bs => if a < b then true else if a = b then ltL as bs else false
mutual
def D.ltb : D → D → Bool
  | .bl a, .bl b => !a && b
  | .int a, .int b => decide (a < b)
  | .str a, .str b => ltL a b
  | .lst a, .lst b => D.ltbs a b
  | .tup a, .tup b => D.ltbs a b
  | _, _ => false
def D.ltbs : List D → List D → Bool
  | _, [] => false
  | [], _ :: _ => true
  | a :: as, b :: bs => if D.eqb a b then D.ltbs as bs else D.ltb a b
end
def insD (x : D) : List D → List D
  | [] => [x]
  | y :: r => if D.ltb y x then y :: insD x r else x :: y :: r
/-- sorting, stable -/
def sortD (l : List D) : List D := l.foldr insD []
def D.isTup : D → Bool
  | .tup (_ :: _) => true
  | _ => false
def D.noTup : D → Bool
  | .non => false
  | .tup _ => false
  | _ => true
def sortable (ds : List D) : Bool := D.nodcts ds && decide (D.depths ds ≤ 60) && (ds.all fun a => ds.all fun b => D.alike a b) && (ds.all D.isTup || ds.all D.noTup)
def dSorted (ds : List D) : Option (List D) := if sortable ds then some (sortD ds) else none
def ordOk (a b : D) : Bool := a.nodct && b.nodct && D.alike a b && decide (a.depth ≤ 60) && !(match a with
  | .non => true
  | _ => false)
def D.shaped (d : D) : Bool := d.plain && decide (d.depth ≤ 64)

/-- the text a begins at some place of b -/
def isIn (a : List Nat) : List Nat → Bool
  | [] => a.isEmpty
  | c :: r => a.isPrefixOf (c :: r) || isIn a r

def lineOk (n : Nat) : Bool := decide (n ≤ 16777216)
def small64 (i : Int) : Bool := decide (-18446744073709551616 < i) && decide (i < 18446744073709551616)
def wideMul (a b : Int) : Bool := decide (a.natAbs.log2 + b.natAbs.log2 < 1000000)
def wideDiv (b : Int) : Bool := decide (b.natAbs.log2 < 9000)

def dBin : Bop → D → D → Option Rv
  | .add, .int a, .int b => some (.val (.int (a + b)))
  | .add, .str a, .str b => if lineOk (a.length + b.length) then some (.val (.str (a ++ b))) else none
  | .add, .lst a, .lst b => if lineOk (a.length + b.length) then some (.own (.lst (a ++ b))) else none
  | .add, .tup a, .tup b => if lineOk (a.length + b.length) then some (.val (.tup (a ++ b))) else none
  | .sub, .int a, .int b => some (.val (.int (a - b)))
  | .mul, .int a, .int b => if small64 a || small64 b || wideMul a b then some (.val (.int (a * b))) else none
  | .mul, .str a, .int b => if lineOk (a.length * b.toNat) && decide (b < 1000000) && decide (-1000000 < b) then some (.val (.str (List.replicate b.toNat a).flatten)) else none
  | .mul, .lst a, .int b => if lineOk (a.length * b.toNat) && decide (b < 1000000) && decide (-1000000 < b) then some (.own (.lst (List.replicate b.toNat a).flatten)) else none
  | .fdiv, .int a, .int b => if decide (0 < b) && (decide (b < 1073741824) || wideDiv b) then some (.val (.int (a / b))) else none
  | .mod, .int a, .int b => if decide (0 < b) then some (.val (.int (a % b))) else none
  | .pow, .int a, .int b => if decide (0 ≤ b) && decide (b ≤ 1000000) && small64 a then some (.val (.int (a ^ b.toNat))) else none
  | _, _, _ => none

def D.isNon : D → Bool
  | .non => true
  | _ => false
def D.isKey : D → Bool
  | .int _ => true
  | .str _ => true
  | _ => false
def D.flat : D → Bool
  | .non => true
  | .bl _ => true
  | .int _ => true
  | .str _ => true
  | _ => false
def D.scal : D → D → Bool
  | .bl _, .int _ => false
  | .int _, .bl _ => false
  | a, b => a.flat && b.flat
def dEqO (a b : D) : Option Bool := if D.scal a b then some (D.eqb a b) else if a.shaped && b.shaped then some (D.eqb a b) else none
def dIn (x : D) : D → Option Bool
  | .lst ds => if x.flat && ds.all D.flat then some (ds.any fun z => D.eqb z x) else if x.shaped && (D.lst ds).shaped then some (ds.any fun z => D.eqb z x) else none
  | .tup ds => if x.flat && ds.all D.flat then some (ds.any fun z => D.eqb z x) else none
  | .str l => match x with
    | .str a => some (isIn a l)
    | _ => none
  | .dct kvs => (kyOf x).map fun k => (lookK kvs k).isSome
  | _ => none

def dCmp : Cop → D → D → Option Bool
  | .eq, a, b => dEqO a b
  | .ne, a, b => (dEqO a b).map (!·)
  | .lt, .int a, .int b => some (decide (a < b))
  | .le, .int a, .int b => some (decide (a ≤ b))
  | .gt, .int a, .int b => some (decide (b < a))
  | .ge, .int a, .int b => some (decide (b ≤ a))
  | .lt, .str a, .str b => some (ltL a b)
  | .le, .str a, .str b => some (!ltL b a)
  | .gt, .str a, .str b => some (ltL b a)
  | .ge, .str a, .str b => some (!ltL a b)
  | .lt, a, b => if ordOk a b then some (D.ltb a b) else none
  | .le, a, b => if ordOk a b then some (!D.ltb b a) else none
  | .gt, a, b => if ordOk a b then some (D.ltb b a) else none
  | .ge, a, b => if ordOk a b then some (!D.ltb a b) else none
  | .isin, a, b => dIn a b
  | .notin, a, b => (dIn a b).map (!·)
  | .isnone, a, .non => some a.isNon
  | .notnone, a, .non => some (!a.isNon)
  | _, _, _ => none

def dTruth : D → Option Bool
  | .non => some false
  | .bl b => some b
  | .int i => some (decide (i ≠ 0))
  | .str l => if lineOk l.length then some (!l.isEmpty) else none
  | .lst l => some (!l.isEmpty)
  | .tup l => some (!l.isEmpty)
  | .dct _ => none
  | .scr _ => none
  | .adr _ => none

/-! ### places -/
def sIx (n d : Nat) : Option Int → Nat
  | none => d
  | some v => if v < 0 then (v + n).toNat else min v.toNat n
def cut {α : Type} (xs : List α) (lo hi : Option Int) : List α := (xs.drop (sIx xs.length 0 lo)).take (sIx xs.length xs.length hi - sIx xs.length 0 lo)
def ixN (n : Nat) (i : Int) : Option Nat := if 0 ≤ i then (if i < n then some i.toNat else none) else if -(n : Int) ≤ i then some (i + n).toNat else none
def atI {α : Type} (xs : List α) (i : Int) : Option α := (ixN xs.length i).bind fun j => xs[j]?

def dIdx : D → D → Option D
  | .lst ds, .int i => atI ds i
  | .tup ds, .int i => atI ds i
  | .str l, .int i => if lineOk l.length then (atI l i).map fun c => .str [c] else none
  | .dct kvs, k => (kyOf k).bind (lookK kvs)
  | _, _ => none
def dPart : D → Option (Option Int)
  | .int i => some (some i)
  | _ => none
def dCut : D → Option Int → Option Int → Option Rv
  | .lst ds, lo, hi => some (.own (.lst (cut ds lo hi)))
  | .str l, lo, hi => if lineOk l.length then some (.val (.str (cut l lo hi))) else none
  | .tup ds, lo, hi => some (.val (.tup (cut ds lo hi)))
  | .scr ns, lo, hi => some (.own (.lst (cut (ns.map D.int) lo hi)))
  | _, _, _ => none

/-! ### built-in functions on values -/
inductive Bi where | len | abs | int | min2 | max2 | tuple | list | sorted | sum | join
  deriving DecidableEq

def dStrs : List D → Option (List (List Nat))
  | [] => some []
  | .str l :: r => (dStrs r).map (l :: ·)
  | _ :: _ => none
def dInts : List D → Option (List Int)
  | [] => some []
  | .int l :: r => (dInts r).map (l :: ·)
  | _ :: _ => none
def uniqD : List D → List D
  | [] => []
  | x :: r => match uniqD r with
    | [] => [x]
    | y :: t => if D.eqb x y then y :: t else x :: y :: t
def sumLen : List (List Nat) → Nat
  | [] => 0
  | l :: r => l.length + sumLen r

def minL (n : Int) (ns : List Int) : Int := ns.foldl (fun a b => if b < a then b else a) n
def maxL (n : Int) (ns : List Int) : Int := ns.foldl (fun a b => if a < b then b else a) n
def dBi : Bi → List D → Option Rv
  | .len, [.str l] => if lineOk l.length then some (.val (.int l.length)) else none
  | .len, [.lst l] => some (.val (.int l.length))
  | .len, [.tup l] => some (.val (.int l.length))
  | .len, [.dct l] => some (.val (.int l.length))
  | .abs, [.int i] => some (.val (.int (if i < 0 then -i else i)))
  | .int, [.int i] => some (.val (.int i))
  | .int, [.bl b] => some (.val (.int (if b then 1 else 0)))
  | .min2, [.int i, .int j] => some (.val (.int (if j < i then j else i)))
  | .max2, [.int i, .int j] => some (.val (.int (if j > i then j else i)))
  | .min2, [.lst l] => match dInts l with
    | some (n :: ns) => some (.val (.int (minL n ns)))
    | _ => none
  | .max2, [.lst l] => match dInts l with
    | some (n :: ns) => some (.val (.int (maxL n ns)))
    | _ => none
  | .tuple, [.lst l] => some (.val (.tup l))
  | .tuple, [.tup l] => some (.val (.tup l))
  | .list, [.lst l] => some (.own (.lst l))
  | .list, [.tup l] => some (.own (.lst l))
  | .sorted, [.lst l] => (dSorted l).map fun r => .own (.lst r)
  | .sum, [.lst l] => (dInts l).map fun ns => .val (.int ns.sum)
  | .sum, [.tup l] => (dInts l).map fun ns => .val (.int ns.sum)
  | _, _ => none

/-! ### the small syntax -/
inductive T where
  | nm (i : Nat) | tu (ts : List T)
inductive Gk where | all | any | sum
  deriving DecidableEq
/-- methods of texts with one text -/
inductive Sm1 where | count | index
  deriving DecidableEq
def Sm1.nm : Sm1 → String
  | .count => "count"
  | .index => "index"
def dSm (m : Sm1) : D → D → Option D
  | .str a, .str [c] => match m with
    | .count => some (.int (a.count c : Nat))
    | .index => (a.findIdx? (· == c)).map fun j => .int (j : Nat)
  | _, _ => none
/-- classes that isinstance is asked for -/
inductive Ty where | int | bool | str | tup | lst | dct
  deriving DecidableEq
def Ty.nm : Ty → String
  | .int => "int"
  | .bool => "bool"
  | .str => "str"
  | .tup => "tuple"
  | .lst => "list"
  | .dct => "dict"
def dIsi (t : Ty) : D → Option Bool
  | .non => some false
  | .bl _ => some (decide (t = .bool) || decide (t = .int))
  | .int _ => some (decide (t = .int))
  | .str _ => some (decide (t = .str))
  | .lst _ => some (decide (t = .lst))
  | .tup _ => some (decide (t = .tup))
  | _ => none
mutual
inductive E where
  | nop
  | var (i : Nat) | cst (d : D) | glb (g : Nat)
  | bin (op : Bop) (a b : E) | neg (a : E)
  | cmp (op : Cop) (a b : E) | chn (op op' : Cop) (a b c : E)
  | and (a b : E) | or (a b : E) | not (a : E) | ite (c a b : E)
  | tup (es : Es) | lst (es : Es)
  | idx (a b : E) | idv (i : Nat) (b : E) | sli (a lo hi : E) | lenv (i : Nat)
  | inv (op : Cop) (a : E) (i : Nat) | cmv (op : Cop) (i : Nat) (a : E)
  | bi (b : Bi) (es : Es) | joi (a b : E)
  | cal (f : Nat) (es : Es) | car (f i : Nat) (es : Es)
  | lc (elt : E) (t : T) (it : I) (c : E) | lc2 (elt : E) (t : T) (it : I) (c : E) (t' : T) (it' : I) (c' : E)
  | gen (k : Gk) (elt : E) (t : T) (it : I) (c : E)
  | srs (elt : E) (t : T) (it : I) (c : E)
  | dic (es : Es) | dc (kx vx : E) (t : T) (it : I) (c : E) | lrg (a : E)
  | isi (t : Ty) (a : E) | pop (i : Nat) | pop0 (i : Nat) | sme (m : Sm1) (a b : E)
inductive I where
  | frz (e : E) | mov (i : Nat) | rng (es : Es) | enm (e : E) | zip (a b : E) | rev (e : E)
inductive Es where
  | nil | cons (e : E) (es : Es)
end
mutual
inductive S where
  | asg (i : Nat) (e : E) | par (is : List Nat) (es : Es) | unp (t : T) (e : E) | aug (i : Nat) (op : Bop) (e : E)
  | set (i : Nat) (k e : E) | exp (e : E) | app (i : Nat) (e : E) | ext (i : Nat) (e : E)
  | ret (e : E) | ife (c : E) (a b : Ss) | fors (t : T) (it : I) (b : Ss) | whl (n : Nat) (c : E) (b : Ss) | brk | cont | pass | bad
inductive Ss where
  | nil | cons (s : S) (ss : Ss)
end

/-! ### its meaning -/
/-- a def's meaning: the parameters' slots; what it hands back, and the parameters' slots behind it -/
abbrev Fn := List Sl → Res (Rv × List Sl)
structure Glo where
  fn : Nat → Fn
  cst : Nat → Option D

def Env.at (ρ : Env) (i : Nat) : Sl := (ρ[i]?).getD .no
/-- a store (the first parameter may be another's) -/
def Env.put (ρ : Env) : Nat → Sl → Option Env
  | 0, s => match ρ.at 0 with
    | .ref _ => none
    | _ => some (ρ.set 0 s)
  | i + 1, s => some (ρ.set (i + 1) s)
/-! stores of targets -/
mutual
def setT : T → D → Env → Option Env
  | .nm i, d, ρ => ρ.put i (.val d)
  | .tu ts, .tup ds, ρ => setTs ts ds ρ
  | .tu _, _, _ => none
def setTs : List T → List D → Env → Option Env
  | [], [], ρ => some ρ
  | t :: ts, d :: ds, ρ => match setT t d ρ with
    | some ρ' => setTs ts ds ρ'
    | none => none
  | _, _, _ => none
end
def T.slots : T → List Nat
  | .nm i => [i]
  | .tu ts => slotsL ts
where slotsL : List T → List Nat
  | [] => []
  | t :: ts => T.slots t ++ slotsL ts
/-- slots forgotten -/
def wipe (ρ : Env) : List Nat → Env
  | [] => ρ
  | v :: vs => (wipe ρ vs).set v .no
/-- may these slots be forgotten (they hold no container) -/
def wipable (ρ : Env) (vs : List Nat) : Bool := vs.all fun i => decide (i < ρ.length) && match ρ.at i with
  | .no => true
  | .val _ => true
  | _ => false

def signs (l : List Nat) : List D := l.map fun c => .str [c]
/-- lo, lo + c, .., n of them -/
def ranged (lo c : Int) (n : Nat) : List D := (List.range n).map fun (k : Nat) => .int (lo + (k : Int) * c)
def inR (i : Int) : Bool := decide (-4611686018427387904 ≤ i) && decide (i < 4611686018427387904)
def dRange : List D → Option (List D)
  | [.int j] => if inR j then some (ranged 0 1 j.toNat) else none
  | [.int i, .int j] => if inR i && inR j then some (ranged i 1 (j - i).toNat) else none
  | [.int i, .int j, .int c] => if inR i && inR j && decide (c = -1) then some (ranged i (-1) (i - j).toNat) else none
  | _ => none
def dItems : D → Option (List D)
  | .lst ds => some ds
  | .tup ds => some ds
  | .str l => some (signs l)
  | _ => none
def enumd (ds : List D) : List D := (List.range ds.length).zip ds |>.map fun p => .tup [.int p.1, p.2]

inductive Fl where
  | nx (ρ : Env) | rt (d : Rv) (ρ : Env) | bk (ρ : Env) | ct (ρ : Env)

/-- a turn of a comprehension: target, test, element -/
def turnC (set : D → Env → Option Env) (own : List Nat) (c : Env → Res (Bool × Env)) (f : Env → Res (List D × Env)) (x : D) (ρ : Env) : Res (List D × Env) :=
  (Res.of (set x ρ)).bind fun ρ1 => (c ρ1).bind fun p => if p.1 then (f p.2).bind fun q => .ok (q.1, wipe q.2 own) else .ok ([], wipe p.2 own)
def loopC (turn : D → Env → Res (List D × Env)) : List D → List D → Env → Res (List D × Env)
  | [], acc, ρ => .ok (acc, ρ)
  | x :: r, acc, ρ => (turn x ρ).bind fun p => if lineOk (acc.length + p.1.length) then loopC turn r (acc ++ p.1) p.2 else .stuck
/-- a turn of a dict comprehension -/
def turnD (set : D → Env → Option Env) (own : List Nat) (c : Env → Res (Bool × Env)) (f : Env → Res ((D × D) × Env)) (x : D) (kvs : List (Ky × D)) (ρ : Env) : Res (List (Ky × D) × Env) :=
  (Res.of (set x ρ)).bind fun ρ1 => (c ρ1).bind fun p => if p.1 then (f p.2).bind fun q => (Res.of (kyOf q.1.1)).bind fun k => if lineOk (kvs.length + 1) then .ok (storeK kvs k q.1.2, wipe q.2 own) else .stuck else .ok (kvs, wipe p.2 own)
def loopD (turn : D → List (Ky × D) → Env → Res (List (Ky × D) × Env)) : List D → List (Ky × D) → Env → Res (List (Ky × D) × Env)
  | [], acc, ρ => .ok (acc, ρ)
  | x :: r, acc, ρ => (turn x acc ρ).bind fun p => loopD turn r p.1 p.2
/-- all, any: until one decides -/
def loopB (stop : Bool) (turn : D → Env → Res (List D × Env)) : List D → Env → Res (Bool × Env)
  | [], ρ => .ok (!stop, ρ)
  | x :: r, ρ => (turn x ρ).bind fun p => match p.1 with
    | [] => loopB stop turn r p.2
    | [.bl b] => if b == stop then .ok (stop, p.2) else loopB stop turn r p.2
    | _ => .stuck
def loopF (body : D → Env → Res Fl) : List D → Env → Res Fl
  | [], ρ => .ok (.nx ρ)
  | x :: r, ρ => (body x ρ).bind fun f => match f with
    | .nx ρ' => loopF body r ρ'
    | .ct ρ' => loopF body r ρ'
    | .bk ρ' => .ok (.nx ρ')
    | .rt d ρ' => .ok (.rt d ρ')
def loopW (c : Env → Res (Bool × Env)) (body : Env → Res Fl) : Nat → Env → Res Fl
  | 0, _ => .stuck
  | n + 1, ρ => (c ρ).bind fun p => if p.1 then (body p.2).bind fun f => match f with
      | .nx ρ' => loopW c body n ρ'
      | .ct ρ' => loopW c body n ρ'
      | .bk ρ' => .ok (.nx ρ')
      | .rt d ρ' => .ok (.rt d ρ')
    else .ok (.nx p.2)

def dNeg : D → Option Rv
  | .int i => some (.val (.int (-i)))
  | _ => none
def E.isNop : E → Bool
  | .nop => true
  | _ => false
/-- behind a loop over a moved container -/
def back (mv : Option (Nat × D)) (ρ : Env) : Res Env := match mv with
  | none => .ok ρ
  | some (i, c) => match ρ.at i with
    | .no => .ok (ρ.set i (.own c))
    | _ => .stuck
def truR (r : Rv) (ρ : Env) : Res (Bool × Env) := (Res.of (dTruth r.d)).bind fun b => .ok (b, ρ)
def joinD (a : D) (b : D) : Option D := match a, b with
  | .str [], .lst ds => match dStrs ds with
    | some ss => if lineOk (sumLen ss) then some (.str ss.flatten) else none
    | none => none
  | .str [], .tup ds => match dStrs ds with
    | some ss => if lineOk (sumLen ss) then some (.str ss.flatten) else none
    | none => none
  | _, _ => none

mutual
def runE (G : Glo) : E → Env → Res (Rv × Env)
  | .nop, _ => .stuck
  | .var i, ρ => match ρ.at i with
    | .val d => .ok (.val d, ρ)
    | .own d => .ok (.val d, ρ.set i (.val d))
    | _ => .stuck
  | .cst d, ρ => .ok (.val d, ρ)
  | .glb g, ρ => (Res.of (G.cst g)).bind fun d => .ok (.val d, ρ)
  | .bin op a b, ρ => (runE G a ρ).bind fun p => (runE G b p.2).bind fun q => (Res.of (dBin op p.1.d q.1.d)).bind fun r => .ok (r, q.2)
  | .neg a, ρ => (runE G a ρ).bind fun p => (Res.of (dNeg p.1.d)).bind fun r => .ok (r, p.2)
  | .cmp op a b, ρ => (runE G a ρ).bind fun p => (runE G b p.2).bind fun q => (Res.of (dCmp op p.1.d q.1.d)).bind fun r => .ok (.val (.bl r), q.2)
  | .chn op op' a b c, ρ => (runE G a ρ).bind fun p => (runE G b p.2).bind fun q => (Res.of (dCmp op p.1.d q.1.d)).bind fun r =>
      if r then (runE G c q.2).bind fun z => (Res.of (dCmp op' q.1.d z.1.d)).bind fun r' => .ok (.val (.bl r'), z.2) else .ok (.val (.bl false), q.2)
  | .and a b, ρ => (runE G a ρ).bind fun p => (Res.of (dTruth p.1.d)).bind fun t => if t then runE G b p.2 else .ok p
  | .or a b, ρ => (runE G a ρ).bind fun p => (Res.of (dTruth p.1.d)).bind fun t => if t then .ok p else runE G b p.2
  | .not a, ρ => (runE G a ρ).bind fun p => (Res.of (dTruth p.1.d)).bind fun t => .ok (.val (.bl (!t)), p.2)
  | .ite c a b, ρ => (runE G c ρ).bind fun p => (Res.of (dTruth p.1.d)).bind fun t => if t then runE G a p.2 else runE G b p.2
  | .tup es, ρ => (runEs G es ρ).bind fun p => if lineOk p.1.length then .ok (.val (.tup (p.1.map Rv.d)), p.2) else .stuck
  | .lst es, ρ => (runEs G es ρ).bind fun p => if lineOk p.1.length then .ok (.own (.lst (p.1.map Rv.d)), p.2) else .stuck
  | .idx a b, ρ => (runE G a ρ).bind fun p => (runE G b p.2).bind fun q => (Res.of (dIdx p.1.d q.1.d)).bind fun r => .ok (.val r, q.2)
  | .idv i b, ρ => (Res.of (ρ.at i).d?).bind fun _ => (runE G b ρ).bind fun q => (Res.of (q.2.at i).d?).bind fun c => (Res.of (dIdx c q.1.d)).bind fun r => .ok (.val r, q.2)
  | .sli a lo hi, ρ => (runE G a ρ).bind fun p =>
      (if lo.isNop then .ok (none, p.2) else (runE G lo p.2).bind fun q => (Res.of (dPart q.1.d)).bind fun o => .ok (o, q.2)).bind fun l =>
      (if hi.isNop then .ok (none, l.2) else (runE G hi l.2).bind fun q => (Res.of (dPart q.1.d)).bind fun o => .ok (o, q.2)).bind fun h =>
      (Res.of (dCut p.1.d l.1 h.1)).bind fun r => .ok (r, h.2)
  | .lenv i, ρ => (Res.of (ρ.at i).d?).bind fun c => (Res.of (dBi .len [c])).bind fun r => .ok (r, ρ)
  | .inv op a i, ρ => (runE G a ρ).bind fun p => (Res.of (p.2.at i).d?).bind fun c => (Res.of (dCmp op p.1.d c)).bind fun r => .ok (.val (.bl r), p.2)
  | .cmv op i a, ρ => (Res.of (ρ.at i).d?).bind fun _ => (runE G a ρ).bind fun p => (Res.of (p.2.at i).d?).bind fun c => (Res.of (dCmp op c p.1.d)).bind fun r => .ok (.val (.bl r), p.2)
  | .bi b es, ρ => (runEs G es ρ).bind fun p => (Res.of (dBi b (p.1.map Rv.d))).bind fun r => .ok (r, p.2)
  | .joi a b, ρ => (runE G a ρ).bind fun p => (runE G b p.2).bind fun q => (Res.of (joinD p.1.d q.1.d)).bind fun r => .ok (.val r, q.2)
  | .cal f es, ρ => (runEs G es ρ).bind fun p => (G.fn f (p.1.map fun r => .val r.d)).bind fun q => .ok (q.1, p.2)
  | .car f i es, ρ => (Res.of (ρ.at i).d?).bind fun _ => (runEs G es ρ).bind fun p => match p.2.at i with
    | .own c => (G.fn f (.ref c :: p.1.map fun r => .val r.d)).bind fun q => match q.2 with
      | .ref c' :: _ => .ok (.val q.1.d, p.2.set i (.own c'))
      | _ => .stuck
    | .ref c => (G.fn f (.ref c :: p.1.map fun r => .val r.d)).bind fun q => match q.2 with
      | .ref c' :: _ => .ok (.val q.1.d, p.2.set i (.ref c'))
      | _ => .stuck
    | _ => .stuck
  | .lc elt t it c, ρ => (runI G it ρ).bind fun s => if wipable s.2.1 t.slots then
      (loopC (turnC (setT t) t.slots (fun ρ => if c.isNop then .ok (true, ρ) else (runE G c ρ).bind fun p => truR p.1 p.2) (fun ρ => (runE G elt ρ).bind fun q => .ok ([q.1.d], q.2))) s.1 [] (wipe s.2.1 t.slots)).bind fun z =>
        (back s.2.2 z.2).bind fun ρ' => .ok (.own (.lst z.1), ρ') else .stuck
  | .lc2 elt t it c t' it' c', ρ => (runI G it ρ).bind fun s => if wipable s.2.1 (t.slots ++ t'.slots) then
      (loopC (turnC (setT t) (t.slots ++ t'.slots) (fun ρ => if c.isNop then .ok (true, ρ) else (runE G c ρ).bind fun p => truR p.1 p.2)
        (fun ρ => (runI G it' ρ).bind fun s' => if wipable s'.2.1 t'.slots then (loopC (turnC (setT t') t'.slots (fun ρ => if c'.isNop then .ok (true, ρ) else (runE G c' ρ).bind fun p => truR p.1 p.2) (fun ρ => (runE G elt ρ).bind fun q => .ok ([q.1.d], q.2))) s'.1 [] (wipe s'.2.1 t'.slots)).bind fun z =>
          (back s'.2.2 z.2).bind fun ρ' => .ok (z.1, ρ') else .stuck)) s.1 [] (wipe s.2.1 (t.slots ++ t'.slots))).bind fun z =>
        (back s.2.2 z.2).bind fun ρ' => .ok (.own (.lst z.1), ρ') else .stuck
  | .gen k elt t it c, ρ => (runI G it ρ).bind fun s => if wipable s.2.1 t.slots then
      match k with
      | .sum => (loopC (turnC (setT t) t.slots (fun ρ => if c.isNop then .ok (true, ρ) else (runE G c ρ).bind fun p => truR p.1 p.2) (fun ρ => (runE G elt ρ).bind fun q => .ok ([q.1.d], q.2))) s.1 [] (wipe s.2.1 t.slots)).bind fun z =>
          (Res.of (dInts z.1)).bind fun ns => (back s.2.2 z.2).bind fun ρ' => .ok (.val (.int ns.sum), ρ')
      | .all => (loopB false (turnC (setT t) t.slots (fun ρ => if c.isNop then .ok (true, ρ) else (runE G c ρ).bind fun p => truR p.1 p.2) (fun ρ => (runE G elt ρ).bind fun q => .ok ([q.1.d], q.2))) s.1 (wipe s.2.1 t.slots)).bind fun z =>
          (back s.2.2 z.2).bind fun ρ' => .ok (.val (.bl z.1), ρ')
      | .any => (loopB true (turnC (setT t) t.slots (fun ρ => if c.isNop then .ok (true, ρ) else (runE G c ρ).bind fun p => truR p.1 p.2) (fun ρ => (runE G elt ρ).bind fun q => .ok ([q.1.d], q.2))) s.1 (wipe s.2.1 t.slots)).bind fun z =>
          (back s.2.2 z.2).bind fun ρ' => .ok (.val (.bl z.1), ρ')
      else .stuck
  | .srs elt t it c, ρ => (runI G it ρ).bind fun s => if wipable s.2.1 t.slots then
      (loopC (turnC (setT t) t.slots (fun ρ => if c.isNop then .ok (true, ρ) else (runE G c ρ).bind fun p => truR p.1 p.2) (fun ρ => (runE G elt ρ).bind fun q => .ok ([q.1.d], q.2))) s.1 [] (wipe s.2.1 t.slots)).bind fun z =>
        if z.1.all D.isKey && decide (z.1.length < 4000) then (Res.of (dSorted z.1)).bind fun ss => (back s.2.2 z.2).bind fun ρ' => .ok (.own (.lst (uniqD ss)), ρ') else .stuck else .stuck
  | .dic es, ρ => (runEs G es ρ).bind fun p => (Res.of (pairsK (p.1.map Rv.d))).bind fun kvs => if decide (kvs.length ≤ 15) then .ok (.own (.dct (mergeD [] kvs)), p.2) else .stuck
  | .dc kx vx t it c, ρ => (runI G it ρ).bind fun s => if wipable s.2.1 t.slots then
      (loopD (turnD (setT t) t.slots (fun ρ => if c.isNop then .ok (true, ρ) else (runE G c ρ).bind fun p => truR p.1 p.2) (fun ρ => (runE G kx ρ).bind fun q => (runE G vx q.2).bind fun w => .ok ((q.1.d, w.1.d), w.2))) s.1 [] (wipe s.2.1 t.slots)).bind fun z =>
        (back s.2.2 z.2).bind fun ρ' => .ok (.own (.dct z.1), ρ') else .stuck
  | .lrg a, ρ => (runE G a ρ).bind fun p => match p.1.d with
    | .int n => if inR n && lineOk n.toNat then .ok (.own (.lst (ranged 0 1 n.toNat)), p.2) else .stuck
    | _ => .stuck
  | .isi t a, ρ => (runE G a ρ).bind fun p => (Res.of (dIsi t p.1.d)).bind fun b => .ok (.val (.bl b), p.2)
  | .sme m a b, ρ => (runE G a ρ).bind fun p => (runE G b p.2).bind fun q => (Res.of (dSm m p.1.d q.1.d)).bind fun d => .ok (.val d, q.2)
  | .pop i, ρ => match ρ.at i with
    | .own (.lst ds) => (Res.of ds.getLast?).bind fun d => .ok (.val d, ρ.set i (.own (.lst ds.dropLast)))
    | .ref (.lst ds) => (Res.of ds.getLast?).bind fun d => .ok (.val d, ρ.set i (.ref (.lst ds.dropLast)))
    | _ => .stuck
  | .pop0 i, ρ => match ρ.at i with
    | .own (.lst (d :: ds)) => .ok (.val d, ρ.set i (.own (.lst ds)))
    | .ref (.lst (d :: ds)) => .ok (.val d, ρ.set i (.ref (.lst ds)))
    | _ => .stuck
def runI (G : Glo) : I → Env → Res (List D × Env × Option (Nat × D))
  | .frz e, ρ => (runE G e ρ).bind fun p => (Res.of (dItems p.1.d)).bind fun ds => .ok (ds, p.2, none)
  | .mov i, ρ => match ρ.at i with
    | .own (.lst ds) => .ok (ds, ρ.set i .no, some (i, .lst ds))
    | .val (.lst ds) => .ok (ds, ρ, none)
    | _ => .stuck
  | .rng es, ρ => (runEs G es ρ).bind fun p => (Res.of (dRange (p.1.map Rv.d))).bind fun ds => .ok (ds, p.2, none)
  | .enm e, ρ => (runE G e ρ).bind fun p => match p.1.d with
    | .lst ds => .ok (enumd ds, p.2, none)
    | .tup ds => .ok (enumd ds, p.2, none)
    | _ => .stuck
  | .zip a b, ρ => (runE G a ρ).bind fun p => (runE G b p.2).bind fun q => (Res.of (dItems p.1.d)).bind fun xs => (Res.of (dItems q.1.d)).bind fun ys =>
      .ok ((xs.zip ys).map fun z => .tup [z.1, z.2], q.2, none)
  | .rev e, ρ => (runE G e ρ).bind fun p => match p.1.d with
    | .lst ds => .ok (ds.reverse, p.2, none)
    | _ => .stuck
def runEs (G : Glo) : Es → Env → Res (List Rv × Env)
  | .nil, ρ => .ok ([], ρ)
  | .cons e es, ρ => (runE G e ρ).bind fun p => (runEs G es p.2).bind fun q => .ok (p.1 :: q.1, q.2)
end

/-- a, b, .. = values, one by one -/
def setAll : List Nat → List Rv → Env → Option Env
  | [], [], ρ => some ρ
  | i :: is, r :: rs, ρ => match ρ.put i r.sl with
    | none => none
    | some ρ' => setAll is rs ρ'
  | _, _, _ => none
def dSet : D → D → D → Option D
  | .lst ds, .int k, d => (ixN ds.length k).map fun j => .lst (ds.set j d)
  | .dct kvs, k, d => if lineOk (kvs.length + 1) then (kyOf k).map fun y => .dct (storeK kvs y d) else none
  | _, _, _ => none
def dAug : Bop → D → D → Option D
  | .add, .int a, .int b => some (.int (a + b))
  | .add, .str a, .str b => if lineOk (a.length + b.length) then some (.str (a ++ b)) else none
  | .sub, .int a, .int b => some (.int (a - b))
  | _, _, _ => none
mutual
def runS (G : Glo) : S → Env → Res Fl
  | .asg i e, ρ => (runE G e ρ).bind fun p => (Res.of (p.2.put i p.1.sl)).bind fun ρ' => .ok (.nx ρ')
  | .par is es, ρ => (runEs G es ρ).bind fun p => (Res.of (setAll is p.1 p.2)).bind fun ρ' => .ok (.nx ρ')
  | .unp t e, ρ => (runE G e ρ).bind fun p => (Res.of (setT t p.1.d p.2)).bind fun ρ' => .ok (.nx ρ')
  | .aug i op e, ρ => match ρ.at i with
    | .val x => (runE G e ρ).bind fun p => (Res.of (dAug op x p.1.d)).bind fun d => match p.2.at i with
      | .val _ => .ok (.nx (p.2.set i (.val d)))
      | _ => .stuck
    | _ => .stuck
  | .set i k e, ρ => (runE G e ρ).bind fun p => (Res.of (p.2.at i).d?).bind fun _ => (runE G k p.2).bind fun q => match q.2.at i with
    | .own c => (Res.of (dSet c q.1.d p.1.d)).bind fun c' => .ok (.nx (q.2.set i (.own c')))
    | .ref c => (Res.of (dSet c q.1.d p.1.d)).bind fun c' => .ok (.nx (q.2.set i (.ref c')))
    | _ => .stuck
  | .exp e, ρ => (runE G e ρ).bind fun p => .ok (.nx p.2)
  | .app i e, ρ => match (ρ.at i).d? with
    | some (.lst _) => (runE G e ρ).bind fun p => match p.2.at i with
      | .own (.lst ds) => if lineOk (ds.length + 1) then .ok (.nx (p.2.set i (.own (.lst (ds ++ [p.1.d]))))) else .stuck
      | .ref (.lst ds) => if lineOk (ds.length + 1) then .ok (.nx (p.2.set i (.ref (.lst (ds ++ [p.1.d]))))) else .stuck
      | _ => .stuck
    | _ => .stuck
  | .ext i e, ρ => match (ρ.at i).d? with
    | some (.lst _) => (runE G e ρ).bind fun p => match p.1.d with
      | .lst es => match p.2.at i with
        | .own (.lst ds) => if lineOk (ds.length + es.length) then .ok (.nx (p.2.set i (.own (.lst (ds ++ es))))) else .stuck
        | .ref (.lst ds) => if lineOk (ds.length + es.length) then .ok (.nx (p.2.set i (.ref (.lst (ds ++ es))))) else .stuck
        | _ => .stuck
      | _ => .stuck
    | _ => .stuck
  | .ret e, ρ => (runE G e ρ).bind fun p => .ok (.rt p.1 p.2)
  | .ife c a b, ρ => (runE G c ρ).bind fun p => (Res.of (dTruth p.1.d)).bind fun t => if t then runSs G a p.2 else runSs G b p.2
  | .fors t it b, ρ => (runI G it ρ).bind fun s => match s.2.2 with
    | none => loopF (fun x ρ => (Res.of (setT t x ρ)).bind fun ρ1 => runSs G b ρ1) s.1 s.2.1
    | some _ => .stuck
  | .whl n c b, ρ => loopW (fun ρ => (runE G c ρ).bind fun p => truR p.1 p.2) (fun ρ => runSs G b ρ) n ρ
  | .brk, ρ => .ok (.bk ρ)
  | .cont, ρ => .ok (.ct ρ)
  | .pass, ρ => .ok (.nx ρ)
  | .bad, _ => .stuck
def runSs (G : Glo) : Ss → Env → Res Fl
  | .nil, ρ => .ok (.nx ρ)
  | .cons s ss, ρ => (runS G s ρ).bind fun f => match f with
    | .nx ρ' => runSs G ss ρ'
    | f => .ok f
end
/-- a def: n names in all, its body -/
def runF (G : Glo) (n : Nat) (np : Nat) (b : Ss) : Fn := fun ps => if ps.length = np then (runSs G b (ps ++ List.replicate (n - np) .no)).bind fun f => match f with
    | .rt d ρ => if np ≤ ρ.length then .ok (d, ρ.take np) else .stuck
    | .nx ρ => if np ≤ ρ.length then .ok (.val .non, ρ.take np) else .stuck
    | _ => .stuck
  else .stuck
/-- a def of the text -/
structure Df where
  nm : PySem.Str
  N : List PySem.Str
  np : Nat
  body : Ss
  g : Bool := false
/-- what the defs mean, with n levels of calls -/
def Phi (ds : List Df) (cst : Nat → Option D) : Nat → Nat → Fn
  | 0, _ => fun _ => .stuck
  | n + 1, f => match ds[f]? with
    | none => fun _ => .stuck
    | some d => runF ⟨Phi ds cst n, cst⟩ d.N.length d.np d.body
end Gw

set_option Elab.async false
set_option linter.all false
set_option maxRecDepth 100000
set_option maxHeartbeats 1000000
/-! The value layer, part 2: how data stands in HandS's heap. -/
namespace Gw
open PySem L2

def mkS (l : List Nat) : Str := ⟨l.toArray⟩
theorem mkS_len (l : List Nat) : (mkS l).length = l.length := by simp [mkS, Str.length]
theorem mkS_list (l : List Nat) : (mkS l).cps.toList = l := rfl

/-- a tuple of the written part -/
def Kt (K : PySem.W.Frag) (a : Addr) (xs : List V) : Prop :=
  ∃ (o : Obj) (its : Array Value) (n : Nat), K.lookup a = some o ∧ o.cls = .type "tuple" ∧ o.data = .seq its n ∧ its.size ≤ sizeLine ∧ Vals xs its.toList
/-- a list of the written part -/
def Kl (K : PySem.W.Frag) (a : Addr) (xs : List V) : Prop :=
  ∃ (o : Obj) (its : Array Value) (n : Nat), K.lookup a = some o ∧ o.cls = .type "list" ∧ o.dict = none ∧ o.data = .seq its n ∧ its.size ≤ sizeLine ∧ Vals xs its.toList
def kyK : Ky → Option Key
  | .i n => some (.inl n)
  | .s l => some (.inr (mkS l))
  | .t _ => none
mutual
inductive Rp (K : PySem.W.Frag) (M : Addr → Prop) (H : Hp) : V → D → Prop
  | non : Rp K M H .non .non
  | bl (b : Bool) : Rp K M H (.bl b) (.bl b)
  | int (i : Int) : Rp K M H (.int i) (.int i)
  | str (l : List Nat) : Rp K M H (.str (mkS l)) (.str l)
  | lst {a : Addr} {xs : List V} {ds : List D} : H a = some (.lst xs) → ¬ M a → RpA K M H xs ds → Rp K M H (.ref a) (.lst ds)
  | tup {a : Addr} {xs : List V} {ds : List D} : (H a = some (.tup xs) ∧ ¬ M a) ∨ Kt K a xs → RpA K M H xs ds → Rp K M H (.ref a) (.tup ds)
  | dct {a : Addr} {xs : List (Key × V)} {ds : List (Ky × D)} : H a = some (.dK xs) → ¬ M a → RpK K M H xs ds → Rp K M H (.ref a) (.dct ds)
  | scr {a : Addr} {ns : List Int} : (Rd H a (.lst (ns.map V.int)) ∧ ¬ M a) ∨ Kl K a (ns.map V.int) → Rp K M H (.ref a) (.scr ns)
  | adr (a : Addr) : Rp K M H (.ref a) (.adr a)
inductive RpA (K : PySem.W.Frag) (M : Addr → Prop) (H : Hp) : List V → List D → Prop
  | nil : RpA K M H [] []
  | cons {v : V} {vs : List V} {d : D} {ds : List D} : Rp K M H v d → RpA K M H vs ds → RpA K M H (v :: vs) (d :: ds)
inductive RpK (K : PySem.W.Frag) (M : Addr → Prop) (H : Hp) : List (Key × V) → List (Ky × D) → Prop
  | nil : RpK K M H [] []
  | cons {k : Key} {v : V} {vs : List (Key × V)} {y : Ky} {d : D} {ds : List (Ky × D)} : kyK y = some k → Rp K M H v d → RpK K M H vs ds → RpK K M H ((k, v) :: vs) ((y, d) :: ds)
end

section
variable {K : PySem.W.Frag} {M M' : Addr → Prop} {H H' : Hp}
/-- what stays: all tracked objects but those of M and the tables -/
def Stay (M : Addr → Prop) (H H' : Hp) : Prop := ∀ a o, H a = some o → ¬ M a → (∀ ps, o ≠ .tbl ps) → H' a = some o
def NewM (M M' : Addr → Prop) (H : Hp) : Prop := ∀ a, M' a → M a ∨ H a = none
mutual
theorem Rp.mono (hs : Stay M H H') (hm : NewM M M' H) : ∀ {v : V} {d : D}, Rp K M H v d → Rp K M' H' v d
  | _, _, .non => .non
  | _, _, .bl b => .bl b
  | _, _, .int i => .int i
  | _, _, .str l => .str l
  | _, _, .lst h n r => .lst (hs _ _ h n (fun _ e => by cases e)) (fun m => (hm _ m).elim n (fun z => by rw [z] at h; cases h)) (RpA.mono hs hm r)
  | _, _, .tup (.inl ⟨h, n⟩) r => .tup (.inl ⟨hs _ _ h n (fun _ e => by cases e), fun m => (hm _ m).elim n (fun z => by rw [z] at h; cases h)⟩) (RpA.mono hs hm r)
  | _, _, .tup (.inr k) r => .tup (.inr k) (RpA.mono hs hm r)
  | _, _, .dct h n r => .dct (hs _ _ h n (fun _ e => by cases e)) (fun m => (hm _ m).elim n (fun z => by rw [z] at h; cases h)) (RpK.mono hs hm r)
  | _, _, .scr (.inl ⟨.inl h, n⟩) => .scr (.inl ⟨.inl (hs _ _ h n (fun _ e => by cases e)), fun m => (hm _ m).elim n (fun z => by rw [z] at h; cases h)⟩)
  | _, _, .scr (.inl ⟨.inr ⟨o, h⟩, n⟩) => .scr (.inl ⟨.inr ⟨o, hs _ _ h n (fun _ e => by cases e)⟩, fun m => (hm _ m).elim n (fun z => by rw [z] at h; cases h)⟩)
  | _, _, .scr (.inr k) => .scr (.inr k)
  | _, _, .adr a => .adr a
theorem RpA.mono (hs : Stay M H H') (hm : NewM M M' H) : ∀ {vs : List V} {ds : List D}, RpA K M H vs ds → RpA K M' H' vs ds
  | _, _, .nil => .nil
  | _, _, .cons h t => .cons (Rp.mono hs hm h) (RpA.mono hs hm t)
theorem RpK.mono (hs : Stay M H H') (hm : NewM M M' H) : ∀ {vs : List (Key × V)} {ds : List (Ky × D)}, RpK K M H vs ds → RpK K M' H' vs ds
  | _, _, .nil => .nil
  | _, _, .cons k h t => .cons k (Rp.mono hs hm h) (RpK.mono hs hm t)
end
mutual
theorem Rp.off {a : Addr} (hk : ∀ b, b ≠ a → H' b = H b) (ha : ∀ o, H a = some o → match o with | .lst _ => False | .tup _ => False | .dK _ => False | .tbl _ => False | .frz _ _ => False | _ => True) : ∀ {v : V} {d : D}, Rp K M H v d → Rp K M H' v d
  | _, _, .non => .non
  | _, _, .bl b => .bl b
  | _, _, .int i => .int i
  | _, _, .str l => .str l
  | _, _, .lst (a := b) h n r => .lst ((hk b (fun e => by rw [e] at h; exact ha _ h)).trans h) n (RpA.off hk ha r)
  | _, _, .tup (a := b) (.inl ⟨h, n⟩) r => .tup (.inl ⟨(hk b (fun e => by rw [e] at h; exact ha _ h)).trans h, n⟩) (RpA.off hk ha r)
  | _, _, .tup (.inr k) r => .tup (.inr k) (RpA.off hk ha r)
  | _, _, .dct (a := b) h n r => .dct ((hk b (fun e => by rw [e] at h; exact ha _ h)).trans h) n (RpK.off hk ha r)
  | _, _, .scr (a := b) (.inl ⟨.inl h, n⟩) => .scr (.inl ⟨.inl ((hk b (fun e => by rw [e] at h; exact ha _ h)).trans h), n⟩)
  | _, _, .scr (a := b) (.inl ⟨.inr ⟨o, h⟩, n⟩) => .scr (.inl ⟨.inr ⟨o, (hk b (fun e => by rw [e] at h; exact ha _ h)).trans h⟩, n⟩)
  | _, _, .scr (.inr k) => .scr (.inr k)
  | _, _, .adr a => .adr a
theorem RpA.off {a : Addr} (hk : ∀ b, b ≠ a → H' b = H b) (ha : ∀ o, H a = some o → match o with | .lst _ => False | .tup _ => False | .dK _ => False | .tbl _ => False | .frz _ _ => False | _ => True) : ∀ {vs : List V} {ds : List D}, RpA K M H vs ds → RpA K M H' vs ds
  | _, _, .nil => .nil
  | _, _, .cons h t => .cons (Rp.off hk ha h) (RpA.off hk ha t)
theorem RpK.off {a : Addr} (hk : ∀ b, b ≠ a → H' b = H b) (ha : ∀ o, H a = some o → match o with | .lst _ => False | .tup _ => False | .dK _ => False | .tbl _ => False | .frz _ _ => False | _ => True) : ∀ {vs : List (Key × V)} {ds : List (Ky × D)}, RpK K M H vs ds → RpK K M H' vs ds
  | _, _, .nil => .nil
  | _, _, .cons k h t => .cons k (Rp.off hk ha h) (RpK.off hk ha t)
end
theorem RpA.len : ∀ {vs : List V} {ds : List D}, RpA K M H vs ds → vs.length = ds.length
  | _, _, .nil => rfl
  | _, _, .cons _ t => by rw [List.length_cons, List.length_cons, RpA.len t]
theorem RpA.get : ∀ {vs : List V} {ds : List D} {i : Nat} {d : D}, RpA K M H vs ds → ds[i]? = some d → ∃ v, vs[i]? = some v ∧ Rp K M H v d
  | _, _, _, _, .nil, e => by simp at e
  | _, _, 0, _, .cons h _, e => by simp at e; subst e; exact ⟨_, rfl, h⟩
  | _, _, i + 1, d, .cons _ t, e => by
    obtain ⟨v, h1, h2⟩ := RpA.get (i := i) (d := d) t (by simpa using e)
    exact ⟨v, by simpa using h1, h2⟩
theorem RpA.append : ∀ {vs ws : List V} {ds es : List D}, RpA K M H vs ds → RpA K M H ws es → RpA K M H (vs ++ ws) (ds ++ es)
  | _, _, _, _, .nil, s => s
  | _, _, _, _, .cons h t, s => .cons h (RpA.append t s)
theorem RpA.take : ∀ {vs : List V} {ds : List D} (n : Nat), RpA K M H vs ds → RpA K M H (vs.take n) (ds.take n)
  | _, _, 0, _ => .nil
  | _, _, _ + 1, .nil => .nil
  | _, _, n + 1, .cons h t => .cons h (RpA.take n t)
theorem RpA.drop : ∀ {vs : List V} {ds : List D} (n : Nat), RpA K M H vs ds → RpA K M H (vs.drop n) (ds.drop n)
  | _, _, 0, r => r
  | _, _, _ + 1, .nil => .nil
  | _, _, n + 1, .cons _ t => RpA.drop n t
theorem RpA.set {v : V} {d : D} (r : Rp K M H v d) : ∀ {vs : List V} {ds : List D} (i : Nat), RpA K M H vs ds → RpA K M H (vs.set i v) (ds.set i d)
  | _, _, _, .nil => .nil
  | _, _, 0, .cons _ t => .cons r t
  | _, _, i + 1, .cons q t => .cons q (RpA.set r i t)
theorem RpA.reverse : ∀ {vs : List V} {ds : List D}, RpA K M H vs ds → RpA K M H vs.reverse ds.reverse
  | _, _, .nil => .nil
  | _, _, .cons h t => by
    rw [List.reverse_cons, List.reverse_cons]
    exact RpA.append (RpA.reverse t) (.cons h .nil)
theorem RpA.rep {vs : List V} {ds : List D} (h : RpA K M H vs ds) : ∀ k : Nat, RpA K M H (List.replicate k vs).flatten (List.replicate k ds).flatten
  | 0 => .nil
  | k + 1 => by
    rw [List.replicate_succ, List.replicate_succ, List.flatten_cons, List.flatten_cons]
    exact RpA.append h (RpA.rep h k)
theorem Rp.intV {v : V} {i : Int} (h : Rp K M H v (.int i)) : v = .int i := by cases h; rfl
theorem Rp.strV {v : V} {l : List Nat} (h : Rp K M H v (.str l)) : v = .str (mkS l) := by cases h; rfl
theorem Rp.blV {v : V} {b : Bool} (h : Rp K M H v (.bl b)) : v = .bl b := by cases h; rfl
theorem Rp.nonV {v : V} (h : Rp K M H v .non) : v = .non := by cases h; rfl
theorem Rp.lstV {v : V} {ds : List D} (h : Rp K M H v (.lst ds)) : ∃ a xs, v = .ref a ∧ H a = some (.lst xs) ∧ ¬ M a ∧ RpA K M H xs ds := by
  cases h with | lst h n r => exact ⟨_, _, rfl, h, n, r⟩
theorem Rp.tupV {v : V} {ds : List D} (h : Rp K M H v (.tup ds)) : ∃ a xs, v = .ref a ∧ SqT K H a xs ∧ RpA K M H xs ds := by
  cases h with | tup h r => exact ⟨_, _, rfl, h.elim (fun z => .inl (.inl z.1)) .inr, r⟩
theorem Rp.scrV {v : V} {ns : List Int} (h : Rp K M H v (.scr ns)) : ∃ a, v = .ref a ∧ SqL K H a (ns.map V.int) := by
  cases h with | scr h => exact ⟨_, rfl, h.elim (fun z => .inl z.1) .inr⟩
theorem Rp.adrV {v : V} {a : Addr} (h : Rp K M H v (.adr a)) : v = .ref a := by cases h; rfl
theorem RpA.ints : ∀ ns : List Int, RpA K M H (ns.map V.int) (ns.map D.int)
  | [] => .nil
  | n :: ns => .cons (.int n) (RpA.ints ns)
theorem Rp.dctV {v : V} {ds : List (Ky × D)} (h : Rp K M H v (.dct ds)) : ∃ a xs, v = .ref a ∧ H a = some (.dK xs) ∧ ¬ M a ∧ RpK K M H xs ds := by
  cases h with | dct h n r => exact ⟨_, _, rfl, h, n, r⟩
end

/-! ### the frame's relation -/
structure Bs where
  H0 : Hp
  r0 : Option Addr
  tabs : List Addr
  Z : Addr → Prop
  fx : Addr → Option HO := fun _ => none
/-- the first parameter alone may be handed in by reference -/
def Bs.ra (B : Bs) : Nat → Option Addr
  | 0 => B.r0
  | _ + 1 => none
def Bs.P (B : Bs) (a : Addr) : Prop := ∃ j, B.ra j = some a
def Sl.isOwn : Sl → Prop
  | .own _ => True
  | .ref _ => True
  | _ => False
/-- the containers of these slots -/
def Mt (Z : Addr → Prop) (ss : List Sl) (vs : List (Option V)) (a : Addr) : Prop := Z a ∨ ∃ (j : Nat) (s : Sl), ss[j]? = some s ∧ s.isOwn ∧ vs[j]? = some (some (V.ref a))
def OwnAt (K : PySem.W.Frag) (M : Addr → Prop) (H : Hp) (a : Addr) : D → Prop
  | .lst ds => ∃ xs, H a = some (.lst xs) ∧ RpA K M H xs ds
  | .dct ds => ∃ xs, H a = some (.dK xs) ∧ RpK K M H xs ds
  | _ => False
def TabG (H : Hp) (P : Addr) : Prop := ∃ ps : Array Value, H P = some (.tbl ps) ∧ TriplesOk ps.toList
/-- from a call's entry on -/
structure Ext (P : Addr → Prop) (H H' : Hp) : Prop where
  stay : ∀ a o, H a = some o → ¬ P a → (∀ ps, o ≠ .tbl ps) → H' a = some o
  tbl : ∀ a ps, H a = some (.tbl ps) → ∃ ps', H' a = some (.tbl ps')
/-- an object that no value stands at -/
def Frn : HO → Prop
  | .lst _ => False
  | .tup _ => False
  | .dK _ => False
  | .tbl _ => False
  | .frz _ _ => False
  | _ => True
structure R (K : PySem.W.Frag) (B : Bs) (ss : List Sl) (vs : List (Option V)) (H : Hp) : Prop where
  len : ss.length = vs.length
  val : ∀ (j : Nat) (d : D), ss[j]? = some (Sl.val d) → ∃ v : V, vs[j]? = some (some v) ∧ Rp K (Mt B.Z ss vs) H v d
  own : ∀ (j : Nat) (d : D), ss[j]? = some (Sl.own d) → ∃ a : Addr, vs[j]? = some (some (V.ref a)) ∧ OwnAt K (Mt B.Z ss vs) H a d ∧ B.H0 a = none
  ref : ∀ (j : Nat) (d : D), ss[j]? = some (Sl.ref d) → ∃ a : Addr, B.ra j = some a ∧ vs[j]? = some (some (V.ref a)) ∧ OwnAt K (Mt B.Z ss vs) H a d
  pin : ∀ (j : Nat) (a : Addr), B.ra j = some a → ∃ d : D, ss[j]? = some (Sl.ref d)
  sep : ∀ (i j : Nat) (s t : Sl) (a : Addr), ss[i]? = some s → ss[j]? = some t → s.isOwn → t.isOwn → vs[i]? = some (some (V.ref a)) → vs[j]? = some (some (V.ref a)) → i = j
  ext : Ext B.P B.H0 H
  tab : ∀ a ∈ B.tabs, TabG H a
  zed : ∀ a, B.Z a → ∃ o, H a = some o ∧ ∀ ps, o ≠ .tbl ps
  sepZ : ∀ (j : Nat) (s : Sl) (a : Addr), ss[j]? = some s → s.isOwn → vs[j]? = some (some (V.ref a)) → ¬ B.Z a
  fix : ∀ (a : Addr) (o : HO), B.fx a = some o → H a = some o ∧ Frn o

section
variable {K : PySem.W.Frag} {B : Bs} {ss ts : List Sl} {vs ws : List (Option V)} {H H' : Hp}
theorem OwnAt.mono {M M' : Addr → Prop} {a : Addr} (hs : Stay M H H') (hm : NewM M M' H) (ha : H' a = H a) : ∀ {d : D}, OwnAt K M H a d → OwnAt K M' H' a d
  | .lst ds, ⟨xs, h, r⟩ => ⟨xs, ha.trans h, r.mono hs hm⟩
  | .dct ds, ⟨xs, h, r⟩ => ⟨xs, ha.trans h, r.mono hs hm⟩
theorem OwnAt.obj {M : Addr → Prop} {a : Addr} {d : D} (h : OwnAt K M H a d) : ∃ o, H a = some o ∧ (∀ ps, o ≠ .tbl ps) := by
  cases d with
  | lst ds => obtain ⟨xs, h, _⟩ := h; exact ⟨_, h, fun _ e => by cases e⟩
  | dct ds => obtain ⟨xs, h, _⟩ := h; exact ⟨_, h, fun _ e => by cases e⟩
  | _ => exact h.elim
theorem OwnAt.rp {M : Addr → Prop} {a : Addr} {d : D} (h : OwnAt K M H a d) (n : ¬ M a) : Rp K M H (.ref a) d := by
  cases d with
  | lst ds => obtain ⟨xs, h, r⟩ := h; exact .lst h n r
  | dct ds => obtain ⟨xs, h, r⟩ := h; exact .dct h n r
  | _ => exact h.elim
theorem R.mt (r : R K B ss vs H) {a : Addr} (m : ∃ (j : Nat) (s : Sl), ss[j]? = some s ∧ s.isOwn ∧ vs[j]? = some (some (V.ref a))) : ∃ d, OwnAt K (Mt B.Z ss vs) H a d := by
  obtain ⟨j, s, e, o, v⟩ := m
  cases s with
  | no => exact o.elim
  | val d => exact o.elim
  | own d =>
    obtain ⟨b, h1, h2, _⟩ := r.own j d e
    rw [v] at h1; cases h1
    exact ⟨d, h2⟩
  | ref d =>
    obtain ⟨b, _, h1, h2⟩ := r.ref j d e
    rw [v] at h1; cases h1
    exact ⟨d, h2⟩
theorem R.mt_some (r : R K B ss vs H) {a : Addr} (m : Mt B.Z ss vs a) : ∃ o, H a = some o ∧ (∀ ps, o ≠ .tbl ps) := m.elim (r.zed a) fun m => let ⟨_, h⟩ := r.mt m; h.obj
/-- an address that is new here was new at the entry -/
theorem R.new0 (r : R K B ss vs H) {p : Addr} (hp : H p = none) : B.H0 p = none := by
  cases e : B.H0 p with
  | none => rfl
  | some o =>
    exfalso
    by_cases hP : B.P p
    · obtain ⟨j, hj⟩ := hP
      obtain ⟨d, hd⟩ := r.pin j p hj
      obtain ⟨a, h1, h2, h3⟩ := r.ref j d hd
      rw [hj] at h1; cases h1
      obtain ⟨o', h4, _⟩ := h3.obj
      rw [hp] at h4; cases h4
    · by_cases ht : ∃ ps, o = .tbl ps
      · obtain ⟨ps, rfl⟩ := ht
        obtain ⟨ps', h⟩ := r.ext.tbl p ps e
        rw [hp] at h; cases h
      · have h := r.ext.stay p o e hP fun ps z => ht ⟨ps, z⟩
        rw [hp] at h; cases h
/-- the heap grows; nothing that stood changes, but for tables that stay tables -/
structure Grow (T : List Addr) (H H' : Hp) : Prop where
  stay : ∀ a o, H a = some o → (∀ ps, o ≠ .tbl ps) → H' a = some o
  tbl : ∀ a ps, H a = some (.tbl ps) → ∃ ps', H' a = some (.tbl ps')
  tab : ∀ a ∈ T, TabG H a → TabG H' a
theorem Grow.refl {T : List Addr} (H : Hp) : Grow T H H := ⟨fun _ _ h _ => h, fun _ ps h => ⟨ps, h⟩, fun _ _ h => h⟩
theorem Grow.new {T : List Addr} {p : Addr} {o : HO} (hp : H p = none) : Grow T H (upd H p o) :=
  ⟨fun a o' h _ => by rw [upd_ne (ne_of_none h hp)]; exact h, fun a ps h => ⟨ps, by rw [upd_ne (ne_of_none h hp)]; exact h⟩, fun a _ ⟨ps, h, t⟩ => ⟨ps, by rw [upd_ne (ne_of_none h hp)]; exact h, t⟩⟩
theorem Grow.trans {T : List Addr} {H1 H2 H3 : Hp} (a : Grow T H1 H2) (b : Grow T H2 H3) : Grow T H1 H3 :=
  ⟨fun c o h n => b.stay c o (a.stay c o h n) n, fun c ps h => by
    obtain ⟨p1, h1⟩ := a.tbl c ps h
    exact b.tbl c p1 h1, fun c hc h => b.tab c hc (a.tab c hc h)⟩
theorem R.grow (r : R K B ss vs H) (g : Grow B.tabs H H') : R K B ss vs H' := by
  have hs : Stay (Mt B.Z ss vs) H H' := fun a o h _ n => g.stay a o h n
  have hm : NewM (Mt B.Z ss vs) (Mt B.Z ss vs) H := fun a m => .inl m
  have ho : ∀ {a d}, OwnAt K (Mt B.Z ss vs) H a d → OwnAt K (Mt B.Z ss vs) H' a d := fun {a d} h => by
    obtain ⟨o, e, n⟩ := h.obj
    exact h.mono hs hm ((g.stay a o e n).trans e.symm)
  refine ⟨r.len, fun j d e => ?_, fun j d e => ?_, fun j d e => ?_, r.pin, r.sep, ⟨fun a o h n t => g.stay a o (r.ext.stay a o h n t) t, fun a ps h => ?_⟩, fun a ha => ?_, fun a ha => ?_, r.sepZ, fun a o h => ?_⟩
  · obtain ⟨v, h1, h2⟩ := r.val j d e
    exact ⟨v, h1, h2.mono hs hm⟩
  · obtain ⟨a, h1, h2, h3⟩ := r.own j d e
    exact ⟨a, h1, ho h2, h3⟩
  · obtain ⟨a, h0, h1, h2⟩ := r.ref j d e
    exact ⟨a, h0, h1, ho h2⟩
  · obtain ⟨p1, h1⟩ := r.ext.tbl a ps h
    exact g.tbl a p1 h1
  · exact g.tab a ha (r.tab a ha)
  · obtain ⟨o, h1, h2⟩ := r.zed a ha
    exact ⟨o, g.stay a o h1 h2, h2⟩
  · obtain ⟨h1, h2⟩ := r.fix a o h
    exact ⟨g.stay a o h1 (fun ps e => by rw [e] at h2; exact h2), h2⟩

theorem getA {α : Type} {l m : List α} {j : Nat} {x : α} (h : (l ++ m)[j]? = some x) : (j < l.length ∧ l[j]? = some x) ∨ (l.length ≤ j ∧ m[j - l.length]? = some x) := by
  rcases Nat.lt_or_ge j l.length with hj | hj
  · rw [List.getElem?_append_left hj] at h; exact .inl ⟨hj, h⟩
  · rw [List.getElem?_append_right hj] at h; exact .inr ⟨hj, h⟩
theorem get1 {α : Type} {l : List α} {j : Nat} {x y : α} (h : (l ++ [y])[j]? = some x) : (j < l.length ∧ l[j]? = some x) ∨ (j = l.length ∧ x = y) := by
  rcases getA h with h | ⟨h1, h2⟩
  · exact .inl h
  · by_cases e : j - l.length = 0
    · rw [e] at h2
      exact .inr ⟨by omega, (Option.some.inj h2).symm⟩
    · obtain ⟨k, hk⟩ : ∃ k, j - l.length = k + 1 := ⟨j - l.length - 1, by omega⟩
      rw [hk] at h2; cases h2
theorem getL {α : Type} {l m : List α} {j : Nat} {x : α} (h : l[j]? = some x) : (l ++ m)[j]? = some x := by
  have hj : j < l.length := by
    rcases Nat.lt_or_ge j l.length with hj | hj
    · exact hj
    · rw [List.getElem?_eq_none hj] at h; cases h
  rw [List.getElem?_append_left hj]; exact h
theorem lt_of_get {α : Type} {l : List α} {j : Nat} {x : α} (h : l[j]? = some x) : j < l.length := by
  rcases Nat.lt_or_ge j l.length with hj | hj
  · exact hj
  · rw [List.getElem?_eq_none hj] at h; cases h
theorem getEnd {α : Type} (l : List α) (x : α) : (l ++ [x])[l.length]? = some x := by simp

theorem mt_push_val {Z : Addr → Prop} {d : D} {v : Option V} (hl : ss.length = vs.length) {a : Addr} : Mt Z (ss ++ [.val d]) (vs ++ [v]) a ↔ Mt Z ss vs a := by
  constructor
  · rintro (h | ⟨j, s, h1, h2, h3⟩)
    · exact .inl h
    rcases get1 h1 with ⟨hj, h1⟩ | ⟨_, rfl⟩
    · rcases get1 h3 with ⟨_, h3⟩ | ⟨e, _⟩
      · exact .inr ⟨j, s, h1, h2, h3⟩
      · omega
    · exact h2.elim
  · rintro (h | ⟨j, s, h1, h2, h3⟩)
    · exact .inl h
    exact .inr ⟨j, s, getL h1, h2, getL h3⟩
theorem mt_push_own {Z : Addr → Prop} {d : D} {p : Addr} (hl : ss.length = vs.length) {a : Addr} : Mt Z (ss ++ [.own d]) (vs ++ [some (.ref p)]) a ↔ Mt Z ss vs a ∨ a = p := by
  constructor
  · rintro (h | ⟨j, s, h1, h2, h3⟩)
    · exact .inl (.inl h)
    rcases get1 h1 with ⟨hj, h1⟩ | ⟨ej, rfl⟩
    · rcases get1 h3 with ⟨_, h3⟩ | ⟨e, _⟩
      · exact .inl (.inr ⟨j, s, h1, h2, h3⟩)
      · omega
    · rcases get1 h3 with ⟨hj, h3⟩ | ⟨_, e⟩
      · omega
      · cases e; exact .inr rfl
  · rintro ((h | ⟨j, s, h1, h2, h3⟩) | rfl)
    · exact .inl h
    · exact .inr ⟨j, s, getL h1, h2, getL h3⟩
    · exact .inr ⟨ss.length, _, getEnd _ _, trivial, by rw [hl]; exact getEnd _ _⟩
theorem mt_left {Z : Addr → Prop} {a : Addr} {ts : List Sl} {ws : List (Option V)} : Mt Z ss vs a → Mt Z (ss ++ ts) (vs ++ ws) a
  | .inl h => .inl h
  | .inr ⟨j, s, g1, g2, g3⟩ => .inr ⟨j, s, getL g1, g2, getL g3⟩
theorem rp_congr {M M' : Addr → Prop} (h : ∀ a, M' a → M a) {v : V} {d : D} (r : Rp K M H v d) : Rp K M' H v d := r.mono (fun a o h _ _ => h) fun a m => .inl (h a m)
theorem own_congr {M M' : Addr → Prop} (h : ∀ a, M' a → M a) {a : Addr} {d : D} (r : OwnAt K M H a d) : OwnAt K M' H a d := r.mono (fun a o h _ _ => h) (fun a m => .inl (h a m)) rfl
theorem R.push_val (r : R K B ss vs H) {v : V} {d : D} (h : Rp K (Mt B.Z ss vs) H v d) : R K B (ss ++ [.val d]) (vs ++ [some v]) H := by
  have mm : ∀ a, Mt B.Z (ss ++ [.val d]) (vs ++ [some v]) a → Mt B.Z ss vs a := fun a m => (mt_push_val r.len).mp m
  refine ⟨by simp [r.len], fun j e h1 => ?_, fun j e h1 => ?_, fun j e h1 => ?_, fun j a h1 => ?_, fun i j s t a h1 h2 o1 o2 h3 h4 => ?_, r.ext, r.tab, r.zed, fun j s a h1 o1 h3 => ?_, r.fix⟩
  · rcases get1 h1 with ⟨hj, h1⟩ | ⟨ej, e1⟩
    · obtain ⟨u, h2, h3⟩ := r.val j e h1
      exact ⟨u, getL h2, rp_congr mm h3⟩
    · cases e1
      exact ⟨v, by rw [ej, r.len]; exact getEnd _ _, rp_congr mm h⟩
  · rcases get1 h1 with ⟨hj, h1⟩ | ⟨ej, e1⟩
    · obtain ⟨u, h2, h3, h4⟩ := r.own j e h1
      exact ⟨u, getL h2, own_congr mm h3, h4⟩
    · cases e1
  · rcases get1 h1 with ⟨hj, h1⟩ | ⟨ej, e1⟩
    · obtain ⟨u, h2, h3, h4⟩ := r.ref j e h1
      exact ⟨u, h2, getL h3, own_congr mm h4⟩
    · cases e1
  · obtain ⟨d, h2⟩ := r.pin j a h1
    exact ⟨d, getL h2⟩
  · rcases get1 h1 with ⟨hi, h1⟩ | ⟨_, rfl⟩
    · rcases get1 h2 with ⟨hj, h2⟩ | ⟨_, rfl⟩
      · rcases get1 h3 with ⟨_, h3⟩ | ⟨e, _⟩
        · rcases get1 h4 with ⟨_, h4⟩ | ⟨e, _⟩
          · exact r.sep i j s t a h1 h2 o1 o2 h3 h4
          · have := r.len; omega
        · have := r.len; omega
      · exact o2.elim
    · exact o1.elim
  · rcases get1 h1 with ⟨hi, h1⟩ | ⟨_, rfl⟩
    · rcases get1 h3 with ⟨_, h3⟩ | ⟨e, _⟩
      · exact r.sepZ j s a h1 o1 h3
      · have := r.len; omega
    · exact o1.elim
def OwnNew (K : PySem.W.Frag) (M : Addr → Prop) (H H' : Hp) (a : Addr) : D → Prop
  | .lst ds => ∃ xs, H' a = some (.lst xs) ∧ RpA K M H xs ds
  | .dct ds => ∃ xs, H' a = some (.dK xs) ∧ RpK K M H xs ds
  | _ => False
theorem R.push_own2 (r : R K B ss vs H) {p : Addr} {d : D} (hp : H p = none) (g : Grow B.tabs H H') (hself : OwnAt K (Mt B.Z (ss ++ [.own d]) (vs ++ [some (.ref p)])) H' p d) : R K B (ss ++ [.own d]) (vs ++ [some (.ref p)]) H' := by
  have hp0 := r.new0 hp
  have r2 := r.grow g
  have np : ¬ Mt B.Z ss vs p := fun m => by
    obtain ⟨o, e, _⟩ := r.mt_some m
    rw [hp] at e; cases e
  have hs : Stay (Mt B.Z ss vs) H H' := fun a o h _ n => g.stay a o h n
  have hm : NewM (Mt B.Z ss vs) (Mt B.Z (ss ++ [.own d]) (vs ++ [some (.ref p)])) H := fun a m => by
    rcases (mt_push_own r.len).mp m with m | rfl
    · exact .inl m
    · exact .inr hp
  have ho : ∀ {a d'}, OwnAt K (Mt B.Z ss vs) H a d' → OwnAt K (Mt B.Z (ss ++ [.own d]) (vs ++ [some (.ref p)])) H' a d' := fun {a d'} h => by
    obtain ⟨o, e, n⟩ := h.obj
    exact h.mono hs hm ((g.stay a o e n).trans e.symm)
  · skip
    refine ⟨by simp [r.len], fun j e h1 => ?_, fun j e h1 => ?_, fun j e h1 => ?_, fun j a h1 => ?_, fun i j s t a h1 h2 o1 o2 h3 h4 => ?_, r2.ext, r2.tab, r2.zed, fun j s a h1 o1 h3 => ?_, r2.fix⟩
    · rcases get1 h1 with ⟨hj, h1⟩ | ⟨ej, e1⟩
      · obtain ⟨u, h2, h3⟩ := r.val j e h1
        exact ⟨u, getL h2, h3.mono hs hm⟩
      · cases e1
    · rcases get1 h1 with ⟨hj, h1⟩ | ⟨ej, e1⟩
      · obtain ⟨u, h2, h3, h4⟩ := r.own j e h1
        exact ⟨u, getL h2, ho h3, h4⟩
      · cases e1
        exact ⟨p, by rw [ej, r.len]; exact getEnd _ _, hself, hp0⟩
    · rcases get1 h1 with ⟨hj, h1⟩ | ⟨ej, e1⟩
      · obtain ⟨u, h2, h3, h4⟩ := r.ref j e h1
        exact ⟨u, h2, getL h3, ho h4⟩
      · cases e1
    · obtain ⟨d, h2⟩ := r.pin j a h1
      exact ⟨d, getL h2⟩
    · have mtOf : ∀ {i s a}, i < ss.length → ss[i]? = some s → s.isOwn → (vs ++ [some (.ref p)])[i]? = some (some (V.ref a)) → Mt B.Z ss vs a := fun {i s a} hi hs ho hv => by
        rcases get1 hv with ⟨_, hv⟩ | ⟨e, _⟩
        · exact .inr ⟨i, s, hs, ho, hv⟩
        · have := r.len; omega
      have topOf : ∀ {i a}, i = ss.length → (vs ++ [some (.ref p)])[i]? = some (some (V.ref a)) → a = p := fun {i a} hi hv => by
        rcases get1 hv with ⟨hj, _⟩ | ⟨_, e⟩
        · have := r.len; omega
        · cases e; rfl
      rcases get1 h1 with ⟨hi, h1⟩ | ⟨ei, rfl⟩
      · rcases get1 h2 with ⟨hj, h2⟩ | ⟨ej, rfl⟩
        · rcases get1 h3 with ⟨_, h3⟩ | ⟨e, _⟩
          · rcases get1 h4 with ⟨_, h4⟩ | ⟨e, _⟩
            · exact r.sep i j s t a h1 h2 o1 o2 h3 h4
            · have := r.len; omega
          · have := r.len; omega
        · have e := topOf ej h4
          subst e
          exact (np (mtOf hi h1 o1 h3)).elim
      · rcases get1 h2 with ⟨hj, h2⟩ | ⟨ej, rfl⟩
        · have e := topOf ei h3
          subst e
          exact (np (mtOf hj h2 o2 h4)).elim
        · omega
    · rcases get1 h1 with ⟨hi, h1⟩ | ⟨ei, rfl⟩
      · rcases get1 h3 with ⟨_, h3⟩ | ⟨e, _⟩
        · exact r.sepZ j s a h1 o1 h3
        · have := r.len; omega
      · rcases get1 h3 with ⟨hj, _⟩ | ⟨_, e⟩
        · have := r.len; omega
        · cases e
          exact fun z => np (.inl z)
/-- a new container on top; g: the heap with it -/
theorem R.push_own (r : R K B ss vs H) {p : Addr} {d : D} (hp : H p = none) (g : Grow B.tabs H H') (h : OwnNew K (Mt B.Z ss vs) H H' p d) : R K B (ss ++ [.own d]) (vs ++ [some (.ref p)]) H' := by
  have hs : Stay (Mt B.Z ss vs) H H' := fun a o h _ n => g.stay a o h n
  have hm : NewM (Mt B.Z ss vs) (Mt B.Z (ss ++ [.own d]) (vs ++ [some (.ref p)])) H := fun a m => by
    rcases (mt_push_own r.len).mp m with m | rfl
    · exact .inl m
    · exact .inr hp
  refine r.push_own2 hp g ?_
  cases d with
  | lst ds =>
    obtain ⟨xs, e, ra⟩ := h
    exact ⟨xs, e, ra.mono hs hm⟩
  | dct ds =>
    obtain ⟨xs, e, ra⟩ := h
    exact ⟨xs, e, ra.mono hs hm⟩
  | _ => exact h.elim
/-- the last one is dropped -/
theorem R.pop {s : Sl} {v : Option V} (r : R K B (ss ++ [s]) (vs ++ [v]) H) (hs : ∀ d, s ≠ .ref d) : R K B ss vs H := by
  have hl : ss.length = vs.length := by have := r.len; simp at this; exact this
  have mm : ∀ a, Mt B.Z ss vs a → Mt B.Z (ss ++ [s]) (vs ++ [v]) a := fun a m => mt_left m
  have gv : ∀ {j : Nat} {x : Option V}, j < ss.length → (vs ++ [v])[j]? = some x → vs[j]? = some x := fun {j x} hj h => by
    rcases get1 h with ⟨_, h⟩ | ⟨e, _⟩
    · exact h
    · omega
  refine ⟨hl, fun j e h1 => ?_, fun j e h1 => ?_, fun j e h1 => ?_, fun j a h1 => ?_, fun i j s t a h1 h2 o1 o2 h3 h4 => ?_, r.ext, r.tab, r.zed, fun j s a h1 o1 h3 => r.sepZ j s a (getL h1) o1 (getL h3), r.fix⟩
  · obtain ⟨u, h2, h3⟩ := r.val j e (getL h1)
    exact ⟨u, gv (lt_of_get h1) h2, rp_congr mm h3⟩
  · obtain ⟨u, h2, h3, h4⟩ := r.own j e (getL h1)
    exact ⟨u, gv (lt_of_get h1) h2, own_congr mm h3, h4⟩
  · obtain ⟨u, h2, h3, h4⟩ := r.ref j e (getL h1)
    exact ⟨u, h2, gv (lt_of_get h1) h3, own_congr mm h4⟩
  · obtain ⟨d, h2⟩ := r.pin j a h1
    rcases get1 h2 with ⟨_, h2⟩ | ⟨e, e2⟩
    · exact ⟨d, h2⟩
    · exact (hs _ e2.symm).elim
  · exact r.sep i j s t a (getL h1) (getL h2) o1 o2 (getL h3) (getL h4)
theorem getSet {α : Type} {l : List α} {i j : Nat} {x y : α} (h : (l.set i y)[j]? = some x) : (j = i ∧ x = y) ∨ (j ≠ i ∧ l[j]? = some x) := by
  by_cases e : i = j
  · subst e
    have hi : i < l.length := by have := lt_of_get h; simpa using this
    rw [List.getElem?_set_self hi] at h
    exact .inl ⟨rfl, (Option.some.inj h).symm⟩
  · rw [List.getElem?_set_ne e] at h
    exact .inr ⟨fun z => e z.symm, h⟩
/-- an own container is frozen -/
theorem R.freeze {i : Nat} {d : D} (r : R K B ss vs H) (h : ss[i]? = some (.own d)) : R K B (ss.set i (.val d)) vs H := by
  obtain ⟨a, hv, ho, h0⟩ := r.own i d h
  have hi := lt_of_get h
  have mm : ∀ b, Mt B.Z (ss.set i (.val d)) vs b → Mt B.Z ss vs b := fun b m => m.elim .inl fun ⟨j, t, h1, h2, h3⟩ => by
    rcases getSet h1 with ⟨_, rfl⟩ | ⟨_, h1⟩
    · exact h2.elim
    · exact .inr ⟨j, t, h1, h2, h3⟩
  have na : ¬ Mt B.Z (ss.set i (.val d)) vs a := fun m => m.elim (r.sepZ i _ a h trivial hv) fun ⟨j, t, h1, h2, h3⟩ => by
    rcases getSet h1 with ⟨_, rfl⟩ | ⟨ne, h1⟩
    · exact h2.elim
    · exact ne (r.sep j i t _ a h1 h h2 trivial h3 hv)
  refine ⟨by simp [r.len], fun j e h1 => ?_, fun j e h1 => ?_, fun j e h1 => ?_, fun j b h1 => ?_, fun i1 j s t b h1 h2 o1 o2 h3 h4 => ?_, r.ext, r.tab, r.zed, fun j s b h1 o1 h3 => ?_, r.fix⟩
  · rcases getSet h1 with ⟨rfl, e1⟩ | ⟨_, h1⟩
    · cases e1
      exact ⟨_, hv, (own_congr mm ho).rp na⟩
    · obtain ⟨u, h2, h3⟩ := r.val j e h1
      exact ⟨u, h2, rp_congr mm h3⟩
  · rcases getSet h1 with ⟨_, e1⟩ | ⟨_, h1⟩
    · cases e1
    · obtain ⟨u, h2, h3, h4⟩ := r.own j e h1
      exact ⟨u, h2, own_congr mm h3, h4⟩
  · rcases getSet h1 with ⟨_, e1⟩ | ⟨_, h1⟩
    · cases e1
    · obtain ⟨u, h2, h3, h4⟩ := r.ref j e h1
      exact ⟨u, h2, h3, own_congr mm h4⟩
  · obtain ⟨e, h2⟩ := r.pin j b h1
    by_cases hj : i = j
    · subst hj; rw [h] at h2; cases h2
    · exact ⟨e, by rw [List.getElem?_set_ne hj]; exact h2⟩
  · rcases getSet h1 with ⟨_, rfl⟩ | ⟨_, h1⟩
    · exact o1.elim
    · rcases getSet h2 with ⟨_, rfl⟩ | ⟨_, h2⟩
      · exact o2.elim
      · exact r.sep i1 j s t b h1 h2 o1 o2 h3 h4
  · rcases getSet h1 with ⟨_, rfl⟩ | ⟨_, h1⟩
    · exact o1.elim
    · exact r.sepZ j s b h1 o1 h3
/-- a slot that is not handed in is forgotten -/
theorem R.forget {i : Nat} {s : Sl} (r : R K B ss vs H) (h : ss[i]? = some s) (hr : ∀ d, s ≠ .ref d) (v : Option V) : R K B (ss.set i .no) (vs.set i v) H := by
  have hi := lt_of_get h
  have mm : ∀ b, Mt B.Z (ss.set i .no) (vs.set i v) b → Mt B.Z ss vs b := fun b m => m.elim .inl fun ⟨j, t, h1, h2, h3⟩ => by
    rcases getSet h1 with ⟨_, rfl⟩ | ⟨ne, h1⟩
    · exact h2.elim
    · rcases getSet h3 with ⟨e, _⟩ | ⟨_, h3⟩
      · exact (ne e).elim
      · exact .inr ⟨j, t, h1, h2, h3⟩
  have sv : ∀ {j : Nat} {x : Option V}, j ≠ i → vs[j]? = some x → (vs.set i v)[j]? = some x := fun {j x} ne h => by
    rw [List.getElem?_set_ne (Ne.symm ne)]; exact h
  refine ⟨by simp [r.len], fun j e h1 => ?_, fun j e h1 => ?_, fun j e h1 => ?_, fun j b h1 => ?_, fun i1 j s t b h1 h2 o1 o2 h3 h4 => ?_, r.ext, r.tab, r.zed, fun j s b h1 o1 h3 => ?_, r.fix⟩
  · rcases getSet h1 with ⟨_, e1⟩ | ⟨ne, h1⟩
    · cases e1
    · obtain ⟨u, h2, h3⟩ := r.val j e h1
      exact ⟨u, sv ne h2, rp_congr mm h3⟩
  · rcases getSet h1 with ⟨_, e1⟩ | ⟨ne, h1⟩
    · cases e1
    · obtain ⟨u, h2, h3, h4⟩ := r.own j e h1
      exact ⟨u, sv ne h2, own_congr mm h3, h4⟩
  · rcases getSet h1 with ⟨_, e1⟩ | ⟨ne, h1⟩
    · cases e1
    · obtain ⟨u, h2, h3, h4⟩ := r.ref j e h1
      exact ⟨u, h2, sv ne h3, own_congr mm h4⟩
  · obtain ⟨e, h2⟩ := r.pin j b h1
    by_cases hj : i = j
    · subst hj; rw [h] at h2; exact (hr e (Option.some.inj h2)).elim
    · exact ⟨e, by rw [List.getElem?_set_ne hj]; exact h2⟩
  · rcases getSet h1 with ⟨_, rfl⟩ | ⟨n1, h1⟩
    · exact o1.elim
    · rcases getSet h2 with ⟨_, rfl⟩ | ⟨n2, h2⟩
      · exact o2.elim
      · rcases getSet h3 with ⟨e, _⟩ | ⟨_, h3⟩
        · exact (n1 e).elim
        · rcases getSet h4 with ⟨e, _⟩ | ⟨_, h4⟩
          · exact (n2 e).elim
          · exact r.sep i1 j s t b h1 h2 o1 o2 h3 h4
  · rcases getSet h1 with ⟨_, rfl⟩ | ⟨n1, h1⟩
    · exact o1.elim
    · rcases getSet h3 with ⟨e, _⟩ | ⟨_, h3⟩
      · exact (n1 e).elim
      · exact r.sepZ j s b h1 o1 h3
/-- the last one moves to an empty slot i -/
theorem R.moveIn {i : Nat} {s : Sl} {v : Option V} (r : R K B (ss ++ [s]) (vs ++ [v]) H) (hs : ∀ d, s ≠ .ref d) (h : ss[i]? = some .no) : R K B (ss.set i s) (vs.set i v) H := by
  have hl : ss.length = vs.length := by have := r.len; simp at this; exact this
  have hi := lt_of_get h
  have top : (ss ++ [s])[ss.length]? = some s := getEnd _ _
  have topv : (vs ++ [v])[ss.length]? = some v := by rw [hl]; exact getEnd _ _
  -- places: j of the new one is π j of the old
  have old : ∀ {j : Nat} {t : Sl}, (ss.set i s)[j]? = some t → ∃ k, (ss ++ [s])[k]? = some t ∧ (∀ x, (vs ++ [v])[k]? = some x → (vs.set i v)[j]? = some x) ∧ (∀ x, (vs.set i v)[j]? = some x → (vs ++ [v])[k]? = some x) ∧ ((j = i ∧ k = ss.length) ∨ (j ≠ i ∧ k = j)) := fun {j t} h1 => by
    rcases getSet h1 with ⟨rfl, rfl⟩ | ⟨ne, h1⟩
    · refine ⟨ss.length, top, fun x e => ?_, fun x e => ?_, .inl ⟨rfl, rfl⟩⟩
      · rw [topv] at e; cases e
        rw [List.getElem?_set_self (by omega)]
      · rw [List.getElem?_set_self (by omega)] at e; cases e
        exact topv
    · refine ⟨j, getL h1, fun x e => ?_, fun x e => ?_, .inr ⟨ne, rfl⟩⟩
      · rcases get1 e with ⟨_, e⟩ | ⟨z, _⟩
        · rw [List.getElem?_set_ne (Ne.symm ne)]; exact e
        · have := lt_of_get h1; omega
      · rcases getSet e with ⟨z, _⟩ | ⟨_, e⟩
        · exact (ne z).elim
        · exact getL e
  have mm : ∀ b, Mt B.Z (ss.set i s) (vs.set i v) b → Mt B.Z (ss ++ [s]) (vs ++ [v]) b := fun b m => m.elim .inl fun ⟨j, t, h1, h2, h3⟩ => by
    obtain ⟨k, g1, _, g3, _⟩ := old h1
    exact .inr ⟨k, t, g1, h2, g3 _ h3⟩
  refine ⟨by simp [hl], fun j e h1 => ?_, fun j e h1 => ?_, fun j e h1 => ?_, fun j b h1 => ?_, fun i1 j s1 t b h1 h2 o1 o2 h3 h4 => ?_, r.ext, r.tab, r.zed, fun j s b h1 o1 h3 => ?_, r.fix⟩
  · obtain ⟨k, g1, g2, g3, _⟩ := old h1
    obtain ⟨u, h2, h3⟩ := r.val k e g1
    exact ⟨u, g2 _ h2, rp_congr mm h3⟩
  · obtain ⟨k, g1, g2, g3, _⟩ := old h1
    obtain ⟨u, h2, h3, h4⟩ := r.own k e g1
    exact ⟨u, g2 _ h2, own_congr mm h3, h4⟩
  · obtain ⟨k, g1, g2, g3, g4⟩ := old h1
    obtain ⟨u, h2, h3, h4⟩ := r.ref k e g1
    rcases g4 with ⟨rfl, rfl⟩ | ⟨_, rfl⟩
    · rw [top] at g1
      exact (hs _ (Option.some.inj g1)).elim
    · exact ⟨u, h2, g2 _ h3, own_congr mm h4⟩
  · obtain ⟨e, h2⟩ := r.pin j b h1
    rcases get1 h2 with ⟨hj, h2⟩ | ⟨_, e2⟩
    · by_cases hj : i = j
      · subst hj; rw [h] at h2; cases h2
      · exact ⟨e, by rw [List.getElem?_set_ne hj]; exact h2⟩
    · exact (hs _ e2.symm).elim
  · obtain ⟨k, g1, g2, g3, g4⟩ := old h1
    obtain ⟨k', g1', g2', g3', g4'⟩ := old h2
    have e := r.sep k k' s1 t b g1 g1' o1 o2 (g3 _ h3) (g3' _ h4)
    rcases g4 with ⟨rfl, rfl⟩ | ⟨_, rfl⟩
    · rcases g4' with ⟨rfl, _⟩ | ⟨_, rfl⟩
      · rfl
      · have := lt_of_get h2; simp at this; omega
    · rcases g4' with ⟨rfl, rfl⟩ | ⟨_, rfl⟩
      · have := lt_of_get h1; simp at this; omega
      · exact e
  · obtain ⟨k, g1, g2, g3, g4⟩ := old h1
    exact r.sepZ k s b g1 o1 (g3 _ h3)
/-- a container's content changes, and new things may be laid -/
theorem R.mutateG {i : Nat} {s s' : Sl} {d d' : D} {a : Addr} (r : R K B ss vs H) (h : ss[i]? = some s) (hs : s = .own d ∧ s' = .own d' ∨ s = .ref d ∧ s' = .ref d') (hv : vs[i]? = some (some (.ref a)))
    (hk : ∀ b o, H b = some o → b ≠ a → (∀ ps, o ≠ .tbl ps) → H' b = some o) (ht : ∀ b ps, H b = some (.tbl ps) → ∃ ps', H' b = some (.tbl ps')) (hT : ∀ b ∈ B.tabs, TabG H b → TabG H' b)
    (ho : OwnAt K (Mt B.Z ss vs) H' a d') : R K B (ss.set i s') vs H' := by
  have own_s : s.isOwn := by rcases hs with ⟨rfl, _⟩ | ⟨rfl, _⟩ <;> exact trivial
  have own_s' : s'.isOwn := by rcases hs with ⟨_, rfl⟩ | ⟨_, rfl⟩ <;> exact trivial
  have ma : Mt B.Z ss vs a := .inr ⟨i, s, h, own_s, hv⟩
  have nz : ¬ B.Z a := r.sepZ i s a h own_s hv
  have hi := lt_of_get h
  have mm : ∀ b, Mt B.Z (ss.set i s') vs b → Mt B.Z ss vs b := fun b m => m.elim .inl fun ⟨j, t, h1, h2, h3⟩ => by
    rcases getSet h1 with ⟨rfl, rfl⟩ | ⟨_, h1⟩
    · exact .inr ⟨j, s, h, own_s, h3⟩
    · exact .inr ⟨j, t, h1, h2, h3⟩
  have hst : Stay (Mt B.Z ss vs) H H' := fun b o hb n t => by
    have ne : b ≠ a := fun e => n (by rw [e]; exact ma)
    exact hk b o hb ne t
  have hnm : NewM (Mt B.Z ss vs) (Mt B.Z (ss.set i s') vs) H := fun b m => .inl (mm b m)
  have hov : ∀ {j : Nat} {t : Sl} {b : Addr} {e : D}, j ≠ i → ss[j]? = some t → t.isOwn → vs[j]? = some (some (.ref b)) → OwnAt K (Mt B.Z ss vs) H b e → OwnAt K (Mt B.Z (ss.set i s') vs) H' b e := fun {j t b e} ne g1 g2 g3 g4 => by
    obtain ⟨o, q1, q2⟩ := g4.obj
    exact g4.mono hst hnm ((hk b o q1 (fun z => ne (r.sep j i t s a g1 h g2 own_s (z ▸ g3) hv)) q2).trans q1.symm)
  have ha0 : ∀ o, B.H0 a = some o → ¬ B.P a → False := fun o e nP => by
    rcases hs with ⟨rfl, _⟩ | ⟨rfl, _⟩
    · obtain ⟨b, g1, _, g3⟩ := r.own i d h
      rw [hv] at g1; cases g1
      rw [e] at g3; cases g3
    · obtain ⟨b, g0, g1, _⟩ := r.ref i d h
      rw [hv] at g1; cases g1
      exact nP ⟨i, g0⟩
  have hta : ∀ ps, H a ≠ some (.tbl ps) := fun ps e => by
    obtain ⟨o, g, n⟩ := r.mt_some ma
    rw [e] at g; cases g
    exact n ps rfl
  refine ⟨by simp [r.len], fun j e h1 => ?_, fun j e h1 => ?_, fun j e h1 => ?_, fun j b h1 => ?_, fun i1 j s1 t b h1 h2 o1 o2 h3 h4 => ?_, ⟨fun b o hb n t => ?_, fun b ps hb => ?_⟩, fun b hb => ?_, fun b hb => ?_, fun j t b h1 o1 h3 => ?_, fun b o hb => ?_⟩
  · rcases getSet h1 with ⟨_, e1⟩ | ⟨ne, h1⟩
    · subst e1
      exact own_s'.elim
    · obtain ⟨u, h2, h3⟩ := r.val j e h1
      exact ⟨u, h2, h3.mono hst hnm⟩
  · rcases getSet h1 with ⟨rfl, e1⟩ | ⟨ne, h1⟩
    · rcases hs with ⟨rfl, rfl⟩ | ⟨_, rfl⟩
      · cases e1
        obtain ⟨b, g1, _, g3⟩ := r.own j d h
        rw [hv] at g1; cases g1
        exact ⟨a, hv, own_congr mm ho, g3⟩
      · cases e1
    · obtain ⟨u, h2, h3, h4⟩ := r.own j e h1
      exact ⟨u, h2, hov ne h1 trivial h2 h3, h4⟩
  · rcases getSet h1 with ⟨rfl, e1⟩ | ⟨ne, h1⟩
    · rcases hs with ⟨_, rfl⟩ | ⟨rfl, rfl⟩
      · cases e1
      · cases e1
        obtain ⟨b, g0, g1, _⟩ := r.ref j d h
        rw [hv] at g1; cases g1
        exact ⟨a, g0, hv, own_congr mm ho⟩
    · obtain ⟨u, h2, h3, h4⟩ := r.ref j e h1
      exact ⟨u, h2, h3, hov ne h1 trivial h3 h4⟩
  · obtain ⟨e, h2⟩ := r.pin j b h1
    by_cases hj : i = j
    · subst hj
      rw [h] at h2; cases h2
      rcases hs with ⟨e3, _⟩ | ⟨_, rfl⟩
      · cases e3
      · exact ⟨d', List.getElem?_set_self hi⟩
    · exact ⟨e, by rw [List.getElem?_set_ne hj]; exact h2⟩
  · have g : ∀ {j : Nat} {t : Sl}, (ss.set i s')[j]? = some t → t.isOwn → ∃ t', ss[j]? = some t' ∧ t'.isOwn := fun {j t} h1 h2 => by
      rcases getSet h1 with ⟨rfl, rfl⟩ | ⟨_, h1⟩
      · exact ⟨s, h, own_s⟩
      · exact ⟨t, h1, h2⟩
    obtain ⟨t1, g1, g2⟩ := g h1 o1
    obtain ⟨t2, g3, g4⟩ := g h2 o2
    exact r.sep i1 j t1 t2 b g1 g3 g2 g4 h3 h4
  · have q := r.ext.stay b o hb n t
    by_cases e : b = a
    · subst e; exact (ha0 o hb n).elim
    · exact hk b o q e t
  · obtain ⟨p1, q⟩ := r.ext.tbl b ps hb
    exact ht b p1 q
  · exact hT b hb (r.tab b hb)
  · obtain ⟨o, q, z⟩ := r.zed b hb
    have ne : b ≠ a := fun e => nz (by rw [← e]; exact hb)
    exact ⟨o, hk b o q ne z, z⟩
  · rcases getSet h1 with ⟨rfl, rfl⟩ | ⟨_, h1⟩
    · exact r.sepZ j s b h own_s h3
    · exact r.sepZ j t b h1 o1 h3
  · obtain ⟨q, z⟩ := r.fix b o hb
    have ne : b ≠ a := fun e => by
      obtain ⟨d0, hd0⟩ := r.mt ⟨i, s, h, own_s, hv⟩
      rw [e] at q
      cases d0 with
      | lst l => obtain ⟨xs, w1, _⟩ := hd0; rw [q] at w1; cases w1; exact z
      | dct l => obtain ⟨xs, w1, _⟩ := hd0; rw [q] at w1; cases w1; exact z
      | _ => exact hd0
    exact ⟨hk b o q ne (fun ps e => by rw [e] at z; exact z), z⟩
theorem R.mutate {i : Nat} {s s' : Sl} {d d' : D} {a : Addr} (r : R K B ss vs H) (h : ss[i]? = some s) (hs : s = .own d ∧ s' = .own d' ∨ s = .ref d ∧ s' = .ref d') (hv : vs[i]? = some (some (.ref a))) {o' : HO}
    (ho : OwnAt K (Mt B.Z ss vs) (upd H a o') a d') : R K B (ss.set i s') vs (upd H a o') := by
  have own_s : s.isOwn := by rcases hs with ⟨rfl, _⟩ | ⟨rfl, _⟩ <;> exact trivial
  have hta : ∀ ps, H a ≠ some (.tbl ps) := fun ps e => by
    obtain ⟨o, g, n⟩ := r.mt_some (.inr ⟨i, s, h, own_s, hv⟩)
    rw [e] at g; cases g
    exact n ps rfl
  have nt : ∀ {b : Addr} {ps : Array Value}, H b = some (.tbl ps) → b ≠ a := fun {b ps} e z => by rw [z] at e; exact hta ps e
  exact r.mutateG h hs hv (fun b o hb ne _ => by rw [upd_ne ne]; exact hb) (fun b ps hb => ⟨ps, by rw [upd_ne (nt hb)]; exact hb⟩) (fun b _ ⟨ps, hb, t⟩ => ⟨ps, by rw [upd_ne (nt hb)]; exact hb, t⟩) ho
end
/-! ### objects that no value stands at -/
section
variable {K : PySem.W.Frag} {B : Bs} {ss : List Sl} {vs : List (Option V)} {H : Hp}
def Bs.put (B : Bs) (a : Addr) (o : HO) : Bs := ⟨B.H0, B.r0, B.tabs, B.Z, fun b => if b = a then some o else B.fx b⟩
theorem R.chg {B' : Bs} {H' : Hp} {a : Addr} (r : R K B ss vs H) (e0 : B'.H0 = B.H0) (e1 : B'.r0 = B.r0) (e2 : B'.tabs = B.tabs) (e3 : B'.Z = B.Z) (h0 : B.H0 a = none) (hk : ∀ b, b ≠ a → H' b = H b) (ha : ∀ o, H a = some o → Frn o) (hf : ∀ b o, B'.fx b = some o → H' b = some o ∧ Frn o) (ht : ∀ b ∈ B.tabs, b ≠ a) (hz : ∀ b, B.Z b → b ≠ a) : R K B' ss vs H' := by
  obtain ⟨H0', ra', tabs', Z', fx'⟩ := B'
  subst e0 e1 e2 e3
  have hs : Stay (Mt B.Z ss vs) H H' → True := fun _ => trivial
  have key : ∀ {v : V} {d : D}, Rp K (Mt B.Z ss vs) H v d → Rp K (Mt B.Z ss vs) H' v d := fun {v d} h => Rp.off hk ha h
  have keyA : ∀ {v : List V} {d : List D}, RpA K (Mt B.Z ss vs) H v d → RpA K (Mt B.Z ss vs) H' v d := fun {v d} h => RpA.off hk ha h
  have ow : ∀ {b : Addr} {d : D}, OwnAt K (Mt B.Z ss vs) H b d → OwnAt K (Mt B.Z ss vs) H' b d := fun {b d} h => by
    have ne : b ≠ a := fun e => by
      rw [e] at h
      cases d with
      | lst l => obtain ⟨xs, w1, _⟩ := h; exact ha _ w1
      | dct l => obtain ⟨xs, w1, _⟩ := h; exact ha _ w1
      | _ => exact h
    cases d with
    | lst l => obtain ⟨xs, w1, w2⟩ := h; exact ⟨xs, (hk b ne).trans w1, keyA w2⟩
    | dct l => obtain ⟨xs, w1, w2⟩ := h; exact ⟨xs, (hk b ne).trans w1, RpK.off hk ha w2⟩
    | _ => exact h
  refine ⟨r.len, fun j d e => ?_, fun j d e => ?_, fun j d e => ?_, r.pin, r.sep, ⟨fun b o hb n t => ?_, fun b ps hb => ?_⟩, fun b hb => ?_, fun b hb => ?_, r.sepZ, hf⟩
  · obtain ⟨v, h1, h2⟩ := r.val j d e
    exact ⟨v, h1, key h2⟩
  · obtain ⟨b, h1, h2, h3⟩ := r.own j d e
    exact ⟨b, h1, ow h2, h3⟩
  · obtain ⟨b, h1, h2, h3⟩ := r.ref j d e
    exact ⟨b, h1, h2, ow h3⟩
  · have ne : b ≠ a := fun e => by rw [e, h0] at hb; cases hb
    rw [hk b ne]; exact r.ext.stay b o hb n t
  · have ne : b ≠ a := fun e => by rw [e, h0] at hb; cases hb
    obtain ⟨ps', h⟩ := r.ext.tbl b ps hb
    exact ⟨ps', by rw [hk b ne]; exact h⟩
  · obtain ⟨ps, h, t⟩ := r.tab b hb
    exact ⟨ps, by rw [hk b (ht b hb)]; exact h, t⟩
  · obtain ⟨o, h, t⟩ := r.zed b hb
    exact ⟨o, by rw [hk b (hz b hb)]; exact h, t⟩
/-- a new one -/
theorem R.putNew (r : R K B ss vs H) {a : Addr} {o : HO} (ha : H a = none) (ho : Frn o) : R K (B.put a o) ss vs (upd H a o) := by
  refine r.chg (a := a) rfl rfl rfl rfl (r.new0 ha) (fun b ne => upd_ne ne) (fun o' h => by rw [ha] at h; cases h) (fun b o' h => ?_) (fun b hb e => ?_) (fun b hb e => ?_)
  · by_cases e : b = a
    · subst e
      have : some o = some o' := by simpa [Bs.put] using h
      cases this
      exact ⟨upd_same, ho⟩
    · have h : B.fx b = some o' := by simpa [Bs.put, e] using h
      obtain ⟨h1, h2⟩ := r.fix b o' h
      exact ⟨by rw [upd_ne e]; exact h1, h2⟩
  · obtain ⟨ps, h, _⟩ := r.tab b hb
    rw [e, ha] at h; cases h
  · obtain ⟨o', h, _⟩ := r.zed b hb
    rw [e, ha] at h; cases h
theorem R.fxOff (r : R K B ss vs H) {fx : Addr → Option HO} (h : ∀ b o, fx b = some o → B.fx b = some o) : R K ⟨B.H0, B.r0, B.tabs, B.Z, fx⟩ ss vs H :=
  ⟨r.len, r.val, r.own, r.ref, r.pin, r.sep, r.ext, r.tab, r.zed, r.sepZ, fun a o e => r.fix a o (h a o e)⟩
end
/-! ### what may be read: a value, or a container of one's own -/
inductive Ra (K : PySem.W.Frag) (M : Addr → Prop) (H : Hp) (v : V) (d : D) : Prop
  | rp : Rp K M H v d → Ra K M H v d
  | own {a : Addr} : v = .ref a → OwnAt K M H a d → Ra K M H v d
inductive RaA (K : PySem.W.Frag) (M : Addr → Prop) (H : Hp) : List V → List D → Prop
  | nil : RaA K M H [] []
  | cons {v : V} {vs : List V} {d : D} {ds : List D} : Ra K M H v d → RaA K M H vs ds → RaA K M H (v :: vs) (d :: ds)
section
variable {K : PySem.W.Frag} {M : Addr → Prop} {H : Hp} {v : V}
theorem Ra.intV {i : Int} (h : Ra K M H v (.int i)) : v = .int i := by cases h with | rp h => exact h.intV | own _ o => exact o.elim
theorem Ra.strV {l : List Nat} (h : Ra K M H v (.str l)) : v = .str (mkS l) := by cases h with | rp h => exact h.strV | own _ o => exact o.elim
theorem Ra.blV {b : Bool} (h : Ra K M H v (.bl b)) : v = .bl b := by cases h with | rp h => exact h.blV | own _ o => exact o.elim
theorem Ra.nonV (h : Ra K M H v .non) : v = .non := by cases h with | rp h => exact h.nonV | own _ o => exact o.elim
theorem Ra.lstV {ds : List D} (h : Ra K M H v (.lst ds)) : ∃ a xs, v = .ref a ∧ H a = some (.lst xs) ∧ True ∧ RpA K M H xs ds := by
  cases h with
  | rp h => obtain ⟨a, xs, h1, h2, _, h3⟩ := h.lstV; exact ⟨a, xs, h1, h2, trivial, h3⟩
  | own e o => obtain ⟨xs, h1, h2⟩ := o; exact ⟨_, xs, e, h1, trivial, h2⟩
theorem Ra.tupR {ds : List D} (h : Ra K M H v (.tup ds)) : Rp K M H v (.tup ds) := by cases h with | rp h => exact h | own _ o => exact o.elim
theorem Ra.scrV {ns : List Int} (h : Ra K M H v (.scr ns)) : ∃ a, v = .ref a ∧ SqL K H a (ns.map V.int) := by cases h with | rp h => exact h.scrV | own _ o => exact o.elim
theorem Ra.tupV {ds : List D} (h : Ra K M H v (.tup ds)) : ∃ a xs, v = .ref a ∧ SqT K H a xs ∧ RpA K M H xs ds := h.tupR.tupV
theorem Ra.flatR {d : D} (h : Ra K M H v d) (f : d.flat = true) : Rp K M H v d := by
  cases h with
  | rp h => exact h
  | own _ o => cases d <;> first | (simp [D.flat] at f; done) | exact o.elim
theorem RpA.ra : ∀ {vs : List V} {ds : List D}, RpA K M H vs ds → RaA K M H vs ds
  | _, _, .nil => .nil
  | _, _, .cons h t => .cons (.rp h) (RpA.ra t)
end
end Gw

set_option Elab.async false
set_option linter.all false
set_option maxRecDepth 100000
set_option maxHeartbeats 1000000
/-! The value layer, part 3: expressions. -/
namespace Gw
open PySem L2

theorem _root_.L2.PE.imp {X : Cx} {e : Expr} {t t' : TE} (h : PE X e t) (i : ∀ σ H Q, t' σ H Q → t σ H Q) : PE X e t' := ⟨fun pins s σ H Q I q => h.run pins s σ H Q I (i _ _ _ q)⟩
theorem _root_.L2.PT.imp {X : Cx} {e : Expr} {t t' : TT} (h : PT X e t) (i : ∀ σ H Q, t' σ H Q → t σ H Q) : PT X e t' := ⟨fun pins s σ H Q I q => h.run pins s σ H Q I (i _ _ _ q)⟩
theorem _root_.L2.PW.imp {X : Cx} {e : Expr} {t t' : TT} (h : PW X e t) (i : ∀ σ H Q, t' σ H Q → t σ H Q) : PW X e t' := ⟨fun w pins s σ H Q I q => h.run w pins s σ H Q I (i _ _ _ q)⟩
theorem _root_.L2.PA.imp {X : Cx} {e : List Expr} {t t' : TA} (h : PA X e t) (i : ∀ σ H Q, t' σ H Q → t σ H Q) : PA X e t' := ⟨fun p pins s σ H Q I q => h.run p pins s σ H Q I (i _ _ _ q)⟩
theorem _root_.L2.PS.imp {X : Cx} {e : Stmt} {t t' : TS} (h : PS X e t) (i : ∀ D σ H, t' D σ H → t D σ H) : PS X e t' := ⟨fun pins s σ H D I q => h.run pins s σ H D I (i _ _ _ q)⟩
theorem _root_.L2.PSs.imp {X : Cx} {e : List Stmt} {t t' : TS} (h : PSs X e t) (i : ∀ D σ H, t' D σ H → t D σ H) : PSs X e t' := ⟨fun pins s σ H D I q => h.run pins s σ H D I (i _ _ _ q)⟩
theorem _root_.L2.OpR.imp {X : Cx} {f : Value → Value → Sem Value} {r r' : R2} (h : OpR X f r) (i : ∀ x y H Q, r' x y H Q → r x y H Q) : OpR X f r' := fun pins s σ H x y v u Q I rx ry q => h pins s σ H x y v u Q I rx ry (i _ _ _ _ q)

theorem Rv.noref (r : Rv) (d : D) : r.sl ≠ .ref d := by cases r <;> (intro e; cases e)
section
variable {K : PySem.W.Frag} {B : Bs} {ss ts : List Sl} {vs ws : List (Option V)} {H H' : Hp}
theorem R.frzTop {r : Rv} {v : Option V} (h : R K B (ss ++ [r.sl]) (vs ++ [v]) H) : R K B (ss ++ [.val r.d]) (vs ++ [v]) H := by
  cases r with
  | val d => exact h
  | own d =>
    have q := h.freeze (i := ss.length) (d := d) (getEnd _ _)
    have e : (ss ++ [Sl.own d]).set ss.length (.val d) = ss ++ [.val d] := by simp
    rw [show ss ++ [(Rv.own d).sl] = ss ++ [Sl.own d] from rfl, e] at q
    exact q
/-- the last temp is taken: its value, the rest -/
theorem R.take1 {r : Rv} {v : V} (h : R K B (ss ++ [r.sl]) (vs ++ [some v]) H) : R K B ss vs H ∧ Rp K (Mt B.Z ss vs) H v r.d := by
  have h := h.frzTop
  have hl : ss.length = vs.length := by have := h.len; simp at this; exact this
  have r1 := h.pop (fun d e => by cases e)
  obtain ⟨u, h1, h2⟩ := h.val ss.length r.d (getEnd _ _)
  rw [hl, getEnd] at h1
  cases h1
  exact ⟨r1, rp_congr (fun a m => (mt_push_val hl).mpr m) h2⟩
theorem R.take2 {r t : Rv} {v w : V} (h : R K B (ss ++ [r.sl] ++ [t.sl]) (vs ++ [some v] ++ [some w]) H) : R K B ss vs H ∧ Rp K (Mt B.Z ss vs) H v r.d ∧ Rp K (Mt B.Z ss vs) H w t.d := by
  obtain ⟨h1, h2⟩ := h.take1
  have h1' := h1.frzTop
  have hl : ss.length = vs.length := by have := h1.len; simp at this; exact this
  obtain ⟨h3, h4⟩ := h1.take1
  exact ⟨h3, h4, rp_congr (fun a m => mt_left m) h2⟩
theorem R.takeAll : ∀ {rs : List Rv} {us : List V} {ss : List Sl} {vs : List (Option V)}, R K B (ss ++ rs.map Rv.sl) (vs ++ us.map some) H → ss.length = vs.length → R K B ss vs H ∧ RpA K (Mt B.Z ss vs) H us (rs.map Rv.d)
  | [], us, ss, vs, h, hl => by
    have : us = [] := by have := h.len; simp [hl] at this; exact this
    subst this
    simp at h
    exact ⟨h, .nil⟩
  | r :: rs, us, ss, vs, h, hl => by
    cases us with
    | nil => have := h.len; simp [hl] at this
    | cons u us =>
      have h' : R K B ((ss ++ [r.sl]) ++ rs.map Rv.sl) ((vs ++ [some u]) ++ us.map some) H := by simpa using h
      obtain ⟨h1, h2⟩ := R.takeAll h' (by simp [hl])
      obtain ⟨h3, h4⟩ := h1.take1
      exact ⟨h3, .cons h4 (h2.mono (fun a o h _ _ => h) fun a m => .inl (mt_left m))⟩
end

/-! ### readings -/
def tE (K : PySem.W.Frag) (B : Bs) (F : Env → Res (Rv × Env)) : TE := fun σ H Q => ∃ (ρ : Env) (ts : List Sl) (vs : List (Option V)) (r : Rv) (ρ' : Env),
  R K B (ρ ++ ts) (σ ++ vs) H ∧ ρ.length = σ.length ∧ F ρ = .ok (r, ρ') ∧ ∀ v H', R K B (ρ' ++ ts ++ [r.sl]) (σ ++ vs ++ [some v]) H' → Q v H'
def tTr (K : PySem.W.Frag) (B : Bs) (F : Env → Res (Rv × Env)) : TT := fun σ H Q => ∃ (ρ : Env) (ts : List Sl) (vs : List (Option V)) (r : Rv) (ρ' : Env) (b : Bool),
  R K B (ρ ++ ts) (σ ++ vs) H ∧ ρ.length = σ.length ∧ F ρ = .ok (r, ρ') ∧ dTruth r.d = some b ∧ ∀ H', R K B (ρ' ++ ts) (σ ++ vs) H' → Q b H'
def tAs (K : PySem.W.Frag) (B : Bs) (F : Env → Res (List Rv × Env)) : TA := fun σ H Q => ∃ (ρ : Env) (ts : List Sl) (vs : List (Option V)) (rs : List Rv) (ρ' : Env),
  R K B (ρ ++ ts) (σ ++ vs) H ∧ ρ.length = σ.length ∧ F ρ = .ok (rs, ρ') ∧ ∀ us H', us.length = rs.length → R K B (ρ' ++ ts ++ rs.map Rv.sl) (σ ++ vs ++ us.map some) H' → Q us H'
/-- an operation on two values -/
def opD (K : PySem.W.Frag) (g : D → D → Option Rv) : R2 := fun x y H Q => ∃ (B : Bs) (ss : List Sl) (vs : List (Option V)) (d e : D) (r : Rv),
  R K B ss vs H ∧ Ra K (Mt B.Z ss vs) H x d ∧ Ra K (Mt B.Z ss vs) H y e ∧ g d e = some r ∧ ∀ u H', R K B (ss ++ [r.sl]) (vs ++ [some u]) H' → Q u H'
def unD (K : PySem.W.Frag) (g : D → Option Rv) : V → Hp → VK → Prop := fun x H Q => ∃ (B : Bs) (ss : List Sl) (vs : List (Option V)) (d : D) (r : Rv),
  R K B ss vs H ∧ Ra K (Mt B.Z ss vs) H x d ∧ g d = some r ∧ ∀ u H', R K B (ss ++ [r.sl]) (vs ++ [some u]) H' → Q u H'
def arD (K : PySem.W.Frag) (g : List D → Option Rv) : List V → Hp → VK → Prop := fun xs H Q => ∃ (B : Bs) (ss : List Sl) (vs : List (Option V)) (ds : List D) (r : Rv),
  R K B ss vs H ∧ RaA K (Mt B.Z ss vs) H xs ds ∧ g ds = some r ∧ ∀ u H', R K B (ss ++ [r.sl]) (vs ++ [some u]) H' → Q u H'
theorem Res.bind_ok {α β : Type} {x : Res α} {f : α → Res β} {b : β} (h : Res.bind x f = .ok b) : ∃ a, x = .ok a ∧ f a = .ok b := by
  cases x with
  | ok a => exact ⟨a, rfl, h⟩
  | exc c p => cases h
  | stuck => cases h
theorem Res.of_ok {α : Type} {o : Option α} {a : α} (h : Res.of o = .ok a) : o = some a := by
  cases o with
  | none => cases h
  | some b => cases h; rfl
section
variable {K : PySem.W.Frag} {B : Bs} {σ : L2.St} {H : Hp}
theorem read2 {Fa Fb : Env → Res (Rv × Env)} {g : D → D → Option Rv} {Q : VK}
    (h : tE K B (fun ρ => (Fa ρ).bind fun p => (Fb p.2).bind fun q => (Res.of (g p.1.d q.1.d)).bind fun r => .ok (r, q.2)) σ H Q) :
    tOp (opD K g) (tE K B Fa) (tE K B Fb) σ H Q := by
  obtain ⟨ρ, ts, vs, r, ρ', hR, hl, hF, hQ⟩ := h
  obtain ⟨⟨ra, ρ1⟩, h1, hF⟩ := Res.bind_ok hF
  obtain ⟨⟨rb, ρ2⟩, h2, hF⟩ := Res.bind_ok hF
  obtain ⟨r', h3, hF⟩ := Res.bind_ok hF
  have h3 := Res.of_ok h3
  cases hF
  refine ⟨ρ, ts, vs, ra, ρ1, hR, hl, h1, fun x H1 R1 => ?_⟩
  have l1 : ρ1.length = σ.length := by have a := hR.len; have b := R1.len; simp at a b; omega
  refine ⟨ρ1, ts ++ [ra.sl], vs ++ [some x], rb, _, by simpa using R1, l1, h2, fun y H2 R2 => ?_⟩
  have R2' : R K B ((ρ2 ++ ts) ++ [ra.sl] ++ [rb.sl]) ((σ ++ vs) ++ [some x] ++ [some y]) H2 := by simpa using R2
  obtain ⟨q0, q1, q2⟩ := R2'.take2
  exact ⟨B, _, _, _, _, _, q0, .rp q1, .rp q2, h3, hQ⟩
theorem read1 {Fa : Env → Res (Rv × Env)} {g : D → Option Rv} {Q : VK} (h : tE K B (fun ρ => (Fa ρ).bind fun p => (Res.of (g p.1.d)).bind fun r => .ok (r, p.2)) σ H Q) :
    tUn (unD K g) (tE K B Fa) σ H Q := by
  obtain ⟨ρ, ts, vs, r, ρ', hR, hl, hF, hQ⟩ := h
  obtain ⟨⟨ra, ρ1⟩, h1, hF⟩ := Res.bind_ok hF
  obtain ⟨r', h3, hF⟩ := Res.bind_ok hF
  have h3 := Res.of_ok h3
  cases hF
  refine ⟨ρ, ts, vs, ra, _, hR, hl, h1, fun x H1 R1 => ?_⟩
  obtain ⟨q0, q1⟩ := R1.take1
  exact ⟨B, _, _, _, _, q0, .rp q1, h3, hQ⟩
theorem readA {Fs : Env → Res (List Rv × Env)} {g : List D → Option Rv} {Q : VK} (h : tE K B (fun ρ => (Fs ρ).bind fun p => (Res.of (g (p.1.map Rv.d))).bind fun r => .ok (r, p.2)) σ H Q) :
    tAs K B Fs σ H fun xs H1 => arD K g xs H1 Q := by
  obtain ⟨ρ, ts, vs, r, ρ', hR, hl, hF, hQ⟩ := h
  obtain ⟨⟨ra, ρ1⟩, h1, hF⟩ := Res.bind_ok hF
  obtain ⟨r', h3, hF⟩ := Res.bind_ok hF
  have h3 := Res.of_ok h3
  cases hF
  refine ⟨ρ, ts, vs, ra, _, hR, hl, h1, fun xs H1 hx R1 => ?_⟩
  have e : (ρ1 ++ ts).length = (σ ++ vs).length := by
    have a := hR.len; have b := R1.len
    simp at a b ⊢; omega
  obtain ⟨q0, q1⟩ := R1.takeAll e
  exact ⟨B, _, _, _, _, q0, q1.ra, h3, hQ⟩
end
end Gw

set_option Elab.async false
set_option linter.all false
set_option maxRecDepth 100000
set_option maxHeartbeats 1000000
/-! The value layer, part 4: operators and built-in functions on values. -/
namespace Gw
open PySem L2

theorem sIx_eq (n d : Nat) (o : Option Int) : HT.sIx n d o = sIx n d o := by
  cases o with
  | none => rfl
  | some v =>
    unfold HT.sIx sIx
    first
      | rfl
      | (split <;> split <;> omega)
theorem ixN_eq (n : Nat) (i : Int) : L2.ixN n i = ixN n i := rfl
theorem atI_eq {α : Type} (xs : List α) (i : Int) : L2.atI xs i = atI xs i := rfl
theorem lineOk_iff {n : Nat} (h : lineOk n = true) : n ≤ sizeLine := by
  rw [sizeLine_eq]; exact of_decide_eq_true h
section
variable {X : Cx} {K : PySem.W.Frag} {M : Addr → Prop} {H : Hp}
theorem RpA.cut {vs : List V} {ds : List D} (h : RpA K M H vs ds) (lo hi : Option Int) : RpA K M H (cutV vs lo hi) (cut ds lo hi) := by
  unfold cutV Gw.cut
  rw [sIx_eq, sIx_eq, h.len]
  exact (h.drop _).take _
theorem RpA.atI {vs : List V} {ds : List D} {i : Int} {d : D} (h : RpA K M H vs ds) (e : Gw.atI ds i = some d) : ∃ v, L2.atI vs i = some v ∧ Rp K M H v d := by
  rw [atI_eq]
  unfold Gw.atI at e ⊢
  rw [h.len]
  cases q : ixN ds.length i with
  | none => rw [q] at e; cases e
  | some j =>
    rw [q] at e
    exact h.get e

/-! closing -/
theorem fin_val {B : Bs} {ss : List Sl} {vs : List (Option V)} {Q : VK} {v : V} {d : D} (hR : R K B ss vs H) (hv : Rp K (Mt B.Z ss vs) H v d) (hQ : ∀ u H', R K B (ss ++ [(Rv.val d).sl]) (vs ++ [some u]) H' → Q u H') : Q v H := hQ v H (hR.push_val hv)
theorem fin_lst {B : Bs} {ss : List Sl} {vs : List (Option V)} {Q : VK} {xs : List V} {ds : List D} (hR : R K B ss vs H) (hv : RpA K (Mt B.Z ss vs) H xs ds) (hQ : ∀ u H', R K B (ss ++ [(Rv.own (.lst ds)).sl]) (vs ++ [some u]) H' → Q u H') :
    ∀ p, H p = none → Q (.ref p) (upd H p (.lst xs)) := fun p hp =>
  hQ _ _ (hR.push_own hp (Grow.new hp) ⟨xs, upd_same, hv⟩)
theorem fin_tup {B : Bs} {ss : List Sl} {vs : List (Option V)} {Q : VK} {xs : List V} {ds : List D} (hR : R K B ss vs H) (hv : RpA K (Mt B.Z ss vs) H xs ds) (hQ : ∀ u H', R K B (ss ++ [(Rv.val (.tup ds)).sl]) (vs ++ [some u]) H' → Q u H') :
    ∀ p, H p = none → Q (.ref p) (upd H p (.tup xs)) := fun p hp => by
  have np : ¬ Mt B.Z ss vs p := fun m => by
    obtain ⟨o, e, _⟩ := hR.mt_some m
    rw [hp] at e; cases e
  have g : Grow B.tabs H (upd H p (.tup xs)) := Grow.new hp
  refine hQ _ _ ((hR.grow g).push_val (.tup (.inl ⟨upd_same, np⟩) ?_))
  exact hv.mono (fun a o h _ n => g.stay a o h n) fun a m => .inl m

/-! ### + - * // % ** -/
theorem opd_add : OpR X (binaryOp .Add) (opD X.K (dBin .add)) := by
  intro pins s σ H x y v u Q I rx ry ⟨B, ss, vs, d, e, r, hR, hx, hy, hg, hQ⟩
  cases d with
  | int a =>
    cases e with
    | int b =>
      cases hg
      rw [hx.intV] at rx; rw [hy.intV] at ry
      exact op_add pins s σ H _ _ v u Q I rx ry ⟨a, b, rfl, rfl, fin_val hR (.int _) hQ⟩
    | _ => cases hg
  | str a =>
    cases e with
    | str b =>
      by_cases hz : lineOk (a.length + b.length) = true
      · simp only [dBin, hz, if_true] at hg
        cases hg
        rw [hx.strV] at rx; rw [hy.strV] at ry
        refine op_add_str pins s σ H _ _ v u Q I rx ry ⟨mkS a, mkS b, rfl, rfl, by rw [mkS_len, mkS_len]; exact lineOk_iff hz, ?_⟩
        have e1 : mkS a ++ mkS b = mkS (a ++ b) := by
          show (⟨a.toArray ++ b.toArray⟩ : Str) = ⟨(a ++ b).toArray⟩
          simp
        rw [e1]
        exact fin_val hR (.str _) hQ
      · simp only [dBin, hz] at hg; cases hg
    | _ => cases hg
  | lst a =>
    cases e with
    | lst b =>
      by_cases hz : lineOk (a.length + b.length) = true
      · simp only [dBin, hz, if_true] at hg
        cases hg
        obtain ⟨p, xs, e1, g1, g2, g3⟩ := hx.lstV
        obtain ⟨q, ys, e2, g4, g5, g6⟩ := hy.lstV
        subst e1 e2
        refine op_cat pins s σ H _ _ v u Q I rx ry ⟨p, q, xs, ys, rfl, rfl, g1, g4, by rw [g3.len, g6.len]; exact lineOk_iff hz, ?_⟩
        exact fin_lst hR (g3.append g6) hQ
      · simp only [dBin, hz] at hg; cases hg
    | _ => cases hg
  | tup a =>
    cases e with
    | tup b =>
      by_cases hz : lineOk (a.length + b.length) = true
      · simp only [dBin, hz, if_true] at hg
        cases hg
        obtain ⟨p, xs, e1, g1, g3⟩ := hx.tupV
        obtain ⟨q, ys, e2, g4, g6⟩ := hy.tupV
        subst e1 e2
        refine op_catA pins s σ H _ _ v u Q I rx ry ⟨p, q, xs, ys, rfl, rfl, g1, g4, by rw [g3.len, g6.len]; exact lineOk_iff hz, fun z => ?_, fun _ z => ?_, fun _ _ => fin_tup hR (g3.append g6) hQ⟩
        · have : a = [] := List.eq_nil_of_length_eq_zero (by rw [← g3.len, z]; rfl)
          subst this
          exact fin_val hR hy.tupR hQ
        · have : b = [] := List.eq_nil_of_length_eq_zero (by rw [← g6.len, z]; rfl)
          subst this
          rw [List.append_nil] at hQ
          exact fin_val hR hx.tupR hQ
      · simp only [dBin, hz] at hg; cases hg
    | _ => cases hg
  | _ => cases hg
theorem opd_sub : OpR X (binaryOp .Sub) (opD X.K (dBin .sub)) := by
  intro pins s σ H x y v u Q I rx ry ⟨B, ss, vs, d, e, r, hR, hx, hy, hg, hQ⟩
  cases d with
  | int a =>
    cases e with
    | int b =>
      cases hg
      rw [hx.intV] at rx; rw [hy.intV] at ry
      exact op_sub pins s σ H _ _ v u Q I rx ry ⟨a, b, rfl, rfl, fin_val hR (.int _) hQ⟩
    | _ => cases hg
  | _ => cases hg
theorem small64_iff {i : Int} (h : small64 i = true) : -(2 ^ 64) < i ∧ i < 2 ^ 64 := by
  unfold small64 at h
  rw [Bool.and_eq_true] at h
  exact ⟨of_decide_eq_true h.1, of_decide_eq_true h.2⟩
theorem flatten_arr (l : List Nat) : ∀ (n : Nat) (acc : List Nat), (List.replicate n l.toArray).foldl (· ++ ·) acc.toArray = (acc ++ (List.replicate n l).flatten).toArray
  | 0, acc => by simp
  | n + 1, acc => by
    rw [List.replicate_succ, List.replicate_succ, List.foldl_cons, List.flatten_cons]
    rw [show acc.toArray ++ l.toArray = (acc ++ l).toArray by simp, flatten_arr l n (acc ++ l)]
    simp
theorem txt_mul (l : List Nat) (n : Int) : Txt.mul (mkS l) n = mkS (List.replicate n.toNat l).flatten := by
  unfold Txt.mul
  by_cases h1 : n < 1
  · rw [if_pos h1, show n.toNat = 0 by omega]; rfl
  · rw [if_neg h1]
    by_cases h2 : (n == 1 || (mkS l).length == 0) = true
    · rw [if_pos h2]
      rw [Bool.or_eq_true] at h2
      rcases h2 with h2 | h2
      · have : n = 1 := by simpa using h2
        subst this
        simp [List.replicate]
      · have : l = [] := by
          rw [mkS_len] at h2
          simpa using h2
        subst this
        simp
    · rw [if_neg h2]
      have := flatten_arr l n.toNat []
      simp only [List.nil_append] at this
      show (⟨_⟩ : Str) = ⟨_⟩
      rw [← this]
      rfl
theorem mulOk_line {l : List Nat} {n : Int} (h : lineOk (l.length * n.toNat) = true) (h1 : n < 1000000) (h2 : -1000000 < n) : MulOk (mkS l) n := by
  refine ⟨?_, fun h3 h4 => ?_, fun h3 h4 => ?_⟩
  · have a : ¬ n < -(2 ^ 63 : Int) := by omega
    have b : ¬ n ≥ 2 ^ 63 := by omega
    rw [decide_eq_false a, decide_eq_false b]; rfl
  · rw [mkS_len]
    have hz : l.length * n.toNat ≤ 16777216 := of_decide_eq_true h
    have hl : l.length ≤ 16777216 := by
      have : l.length * 1 ≤ l.length * n.toNat := Nat.mul_le_mul_left _ (by omega)
      omega
    have h5 : (9223372036854 : Int) ≤ (2 ^ 63 - 1) / n := by
      rw [Int.le_ediv_iff_mul_le (by omega)]
      have : (9223372036854 : Int) * n ≤ 9223372036854 * 1000000 := Int.mul_le_mul_of_nonneg_left (by omega) (by decide)
      omega
    omega
  · rw [mkS_len]
    have hz : l.length * n.toNat ≤ 16777216 := of_decide_eq_true h
    unfold Builtin.Str.tooLong
    rw [decide_eq_false]
    rw [sizeLine_eq]; omega
theorem opd_mul : OpR X (binaryOp .Mult) (opD X.K (dBin .mul)) := by
  intro pins s σ H x y v u Q I rx ry ⟨B, ss, vs, d, e, r, hR, hx, hy, hg, hQ⟩
  cases d with
  | int a =>
    cases e with
    | int b =>
      by_cases hz : (small64 a || small64 b || wideMul a b) = true
      · simp only [dBin, hz, if_true] at hg
        cases hg
        rw [hx.intV] at rx; rw [hy.intV] at ry
        rw [Bool.or_eq_true, Bool.or_eq_true] at hz
        rcases hz with hz | hz
        · exact op_mul pins s σ H _ _ v u Q I rx ry ⟨a, b, rfl, rfl, hz.imp small64_iff small64_iff, fin_val hR (.int _) hQ⟩
        · exact op_mulW pins s σ H _ _ v u Q I rx ry ⟨a, b, rfl, rfl, (show a.natAbs.log2 + b.natAbs.log2 < 1000000 from of_decide_eq_true hz), fin_val hR (.int _) hQ⟩
      · simp only [dBin, hz] at hg; cases hg
    | _ => cases hg
  | str a =>
    cases e with
    | int b =>
      by_cases hz : (lineOk (a.length * b.toNat) && decide (b < 1000000) && decide (-1000000 < b)) = true
      · simp only [dBin, hz, if_true] at hg
        cases hg
        simp only [Bool.and_eq_true, decide_eq_true_eq] at hz
        rw [hx.strV] at rx; rw [hy.intV] at ry
        obtain ⟨t1, rfl⟩ := rx
        obtain ⟨t2, rfl⟩ := ry
        refine SB.mul (mulOk_line hz.1.1 hz.1.2 hz.2) fun t' k => ?_
        rw [txt_mul]
        exact ⟨.str _, H, I.tok _, ⟨_, rfl⟩, fin_val hR (.str _) hQ⟩
      · simp only [dBin, hz] at hg; cases hg
    | _ => cases hg
  | lst a =>
    cases e with
    | int b =>
      by_cases hz : (lineOk (a.length * b.toNat) && decide (b < 1000000) && decide (-1000000 < b)) = true
      · simp only [dBin, hz, if_true] at hg
        cases hg
        simp only [Bool.and_eq_true, decide_eq_true_eq] at hz
        obtain ⟨p, xs, e1, g1, g2, g3⟩ := hx.lstV
        subst e1
        rw [hy.intV] at ry
        refine op_rep pins s σ H _ _ v u Q I rx ry ⟨p, b, xs, rfl, rfl, g1, by omega, by omega, by rw [g3.len]; exact lineOk_iff hz.1.1, ?_⟩
        exact fin_lst hR (g3.rep _) hQ
      · simp only [dBin, hz] at hg; cases hg
    | _ => cases hg
  | _ => cases hg
theorem opd_fdiv : OpR X (binaryOp .FloorDiv) (opD X.K (dBin .fdiv)) := by
  intro pins s σ H x y v u Q I rx ry ⟨B, ss, vs, d, e, r, hR, hx, hy, hg, hQ⟩
  cases d with
  | int a =>
    cases e with
    | int b =>
      by_cases hz : (decide (0 < b) && (decide (b < 1073741824) || wideDiv b)) = true
      · simp only [dBin, hz, if_true] at hg
        cases hg
        simp only [Bool.and_eq_true, Bool.or_eq_true, decide_eq_true_eq] at hz
        rw [hx.intV] at rx; rw [hy.intV] at ry
        rcases hz with ⟨h0, hz | hz⟩
        · exact op_fdiv pins s σ H _ _ v u Q I rx ry ⟨a, b, rfl, rfl, ⟨h0, hz⟩, fin_val hR (.int _) hQ⟩
        · exact op_fdivW pins s σ H _ _ v u Q I rx ry ⟨a, b, rfl, rfl, ⟨h0, (show b.natAbs.log2 < 9000 from of_decide_eq_true hz)⟩, fin_val hR (.int _) hQ⟩
      · simp only [dBin, hz] at hg; cases hg
    | _ => cases hg
  | _ => cases hg
theorem opd_mod : OpR X (binaryOp .Mod) (opD X.K (dBin .mod)) := by
  intro pins s σ H x y v u Q I rx ry ⟨B, ss, vs, d, e, r, hR, hx, hy, hg, hQ⟩
  cases d with
  | int a =>
    cases e with
    | int b =>
      by_cases hz : decide (0 < b) = true
      · simp only [dBin, hz, if_true] at hg
        cases hg
        rw [hx.intV] at rx; rw [hy.intV] at ry
        exact op_mod pins s σ H _ _ v u Q I rx ry ⟨a, b, rfl, rfl, of_decide_eq_true hz, fin_val hR (.int _) hQ⟩
      · simp only [dBin, hz] at hg; cases hg
    | _ => cases hg
  | _ => cases hg
theorem opd_pow : OpR X (binaryOp .Pow) (opD X.K (dBin .pow)) := by
  intro pins s σ H x y v u Q I rx ry ⟨B, ss, vs, d, e, r, hR, hx, hy, hg, hQ⟩
  cases d with
  | int a =>
    cases e with
    | int b =>
      by_cases hz : (decide (0 ≤ b) && decide (b ≤ 1000000) && small64 a) = true
      · simp only [dBin, hz, if_true] at hg
        cases hg
        simp only [Bool.and_eq_true, decide_eq_true_eq] at hz
        rw [hx.intV] at rx; rw [hy.intV] at ry
        have := small64_iff hz.2
        exact op_pow pins s σ H _ _ v u Q I rx ry ⟨a, b, rfl, rfl, ⟨hz.1.1, hz.1.2, by omega⟩, fin_val hR (.int _) hQ⟩
      · simp only [dBin, hz] at hg; cases hg
    | _ => cases hg
  | _ => cases hg
def bopP : Bop → Operator
  | .add => .Add | .sub => .Sub | .mul => .Mult | .fdiv => .FloorDiv | .mod => .Mod | .pow => .Pow
theorem opd_bin : ∀ op : Bop, OpR X (binaryOp (bopP op)) (opD X.K (dBin op))
  | .add => opd_add | .sub => opd_sub | .mul => opd_mul | .fdiv => opd_fdiv | .mod => opd_mod | .pow => opd_pow
theorem und_neg : UnR X (unaryOp .USub) (unD X.K dNeg) := by
  intro pins s σ H x v Q I rx ⟨B, ss, vs, d, r, hR, hx, hg, hQ⟩
  cases d with
  | int a =>
    cases hg
    rw [hx.intV] at rx
    exact un_neg pins s σ H _ v Q I rx ⟨a, rfl, fin_val hR (.int _) hQ⟩
  | _ => cases hg
end
end Gw

set_option Elab.async false
set_option linter.all false
set_option maxRecDepth 100000
set_option maxHeartbeats 1000000
/-! The value layer: dicts whose keys are numbers and texts. -/
namespace Gw
open PySem L2 PySem.Spec PyProof.Rows
theorem mkS_inj1 {a b : List Nat} (h : mkS a = mkS b) : a = b := by
  have := congrArg (fun s : Str => s.cps.toList) h
  simpa [mkS] using this
theorem kyK_inj {a b : Ky} {k : Key} (ha : kyK a = some k) (hb : kyK b = some k) : a = b := by
  cases a <;> cases b <;> simp [kyK] at ha hb
  · subst ha; simp at hb; rw [hb]
  · subst ha; simp at hb
  · subst ha; simp at hb
  · subst ha
    rw [mkS_inj1 (Sum.inr.inj hb)]
theorem kyOf_kK {d : D} {y : Ky} (h : kyOf d = some y) : ∃ k, kyK y = some k ∧ ∀ {K : PySem.W.Frag} {M : Addr → Prop} {H : Hp} {v : V}, Rp K M H v d → v = kV k := by
  cases d <;> simp [kyOf] at h
  · subst h; exact ⟨_, rfl, fun r => r.intV⟩
  · subst h; exact ⟨_, rfl, fun r => r.strV⟩
theorem kyOf_flat {d : D} {y : Ky} (h : kyOf d = some y) : d.flat = true := by cases d <;> simp [kyOf] at h <;> rfl
section
variable {K : PySem.W.Frag} {M : Addr → Prop} {H : Hp}
theorem RpK.len : ∀ {xs : List (Key × V)} {ds : List (Ky × D)}, RpK K M H xs ds → xs.length = ds.length
  | _, _, .nil => rfl
  | _, _, .cons _ _ t => by rw [List.length_cons, List.length_cons, RpK.len t]
theorem RpK.look {y : Ky} {k : Key} (hk : kyK y = some k) : ∀ {xs : List (Key × V)} {ds : List (Ky × D)}, RpK K M H xs ds →
    (lookK ds y = none ∧ valV xs k = none) ∨ ∃ d v, lookK ds y = some d ∧ valV xs k = some v ∧ Rp K M H v d
  | _, _, .nil => .inl ⟨rfl, rfl⟩
  | _, _, .cons (k := k') (v := v) (vs := vs) (y := y') (d := d) (ds := ds) h r t => by
    by_cases e : y' = y
    · subst e
      rw [hk] at h; cases h
      refine .inr ⟨d, v, ?_, ?_, r⟩
      · simp [lookK]
      · exact valV_pos (p := (k, v)) rfl
    · have e2 : ¬ k' = k := fun z => e (kyK_inj h (z ▸ hk))
      rw [valV_neg (p := (k', v)) e2]
      have e3 : lookK ((y', d) :: ds) y = lookK ds y := by simp [lookK, List.find?_cons, e]
      rw [e3]
      exact RpK.look hk t
theorem RpK.mapv {y : Ky} {k : Key} {v : V} {d : D} (hk : kyK y = some k) (hr : Rp K M H v d) : ∀ {xs : List (Key × V)} {ds : List (Ky × D)}, RpK K M H xs ds →
    RpK K M H (xs.map fun kv => if kv.1 = k then (kv.1, v) else kv) (ds.map fun kv => if kv.1 = y then (kv.1, d) else kv)
  | _, _, .nil => .nil
  | _, _, .cons (k := k') (v := v') (vs := vs) (y := y') (d := d') (ds := ds) h r t => by
    rw [List.map_cons, List.map_cons]
    by_cases e : y' = y
    · subst e
      rw [hk] at h; cases h
      rw [if_pos rfl, if_pos rfl]
      exact .cons hk hr (RpK.mapv hk hr t)
    · have e2 : ¬ k' = k := fun z => e (kyK_inj h (z ▸ hk))
      rw [if_neg e2, if_neg e]
      exact .cons h r (RpK.mapv hk hr t)
theorem RpK.snoc {y : Ky} {k : Key} {v : V} {d : D} (hk : kyK y = some k) (hr : Rp K M H v d) : ∀ {xs : List (Key × V)} {ds : List (Ky × D)}, RpK K M H xs ds → RpK K M H (xs ++ [(k, v)]) (ds ++ [(y, d)])
  | _, _, .nil => .cons hk hr .nil
  | _, _, .cons h r t => .cons h r (RpK.snoc hk hr t)
theorem lookK_any (y : Ky) : ∀ ds : List (Ky × D), (ds.any fun kv => decide (kv.1 = y)) = (lookK ds y).isSome
  | [] => rfl
  | p :: r => by
    rw [List.any_cons]
    by_cases e : p.1 = y
    · simp [lookK, e]
    · have : lookK (p :: r) y = lookK r y := by simp [lookK, List.find?_cons, e]
      rw [this, decide_eq_false e, Bool.false_or, lookK_any y r]
theorem RpK.put {y : Ky} {k : Key} {v : V} {d : D} (hk : kyK y = some k) (hr : Rp K M H v d) {xs : List (Key × V)} {ds : List (Ky × D)} (h : RpK K M H xs ds) : RpK K M H (putK xs k v) (storeK ds y d) := by
  unfold putK storeK
  rw [valV_any, lookK_any]
  rcases h.look hk with ⟨h1, h2⟩ | ⟨d', v', h1, h2, _⟩
  · rw [h1, h2]
    simp only [Option.isSome_none, Bool.false_eq_true, if_false]
    exact h.snoc hk hr
  · rw [h1, h2]
    simp only [Option.isSome_some, if_true]
    exact h.mapv hk hr
theorem RpK.merge : ∀ {more : List (Key × V)} {mods : List (Ky × D)}, RpK K M H more mods → ∀ {xs : List (Key × V)} {ds : List (Ky × D)}, RpK K M H xs ds → RpK K M H (mergeK xs more) (mergeD ds mods)
  | _, _, .nil, _, _, h => h
  | _, _, .cons hk hr t, xs, ds, h => by
    unfold mergeK mergeD
    rw [List.foldl_cons, List.foldl_cons]
    exact RpK.merge t (h.put hk hr)
end
theorem Ra.dctV {K : PySem.W.Frag} {M : Addr → Prop} {H : Hp} {v : V} {ds : List (Ky × D)} (h : Ra K M H v (.dct ds)) : ∃ a xs, v = .ref a ∧ H a = some (.dK xs) ∧ RpK K M H xs ds := by
  cases h with
  | rp h => obtain ⟨a, xs, h1, h2, _, h3⟩ := h.dctV; exact ⟨a, xs, h1, h2, h3⟩
  | own e o => obtain ⟨xs, h1, h2⟩ := o; exact ⟨_, xs, e, h1, h2⟩
section
variable {X : Cx}
/-- d[k] as a subscript by values -/
theorem ix_dctK (hu : X.A.units + 1 < cLine) : IxR X (fun x y H Q => ∃ a v, x = .ref a ∧ DGet H a y (some v) ∧ Q v H) := by
  intro value slice pins s σ H x y v u Q I rx ry ⟨a, w, ex, g, q⟩ hs
  subst ex
  obtain rfl : v = Value.ref a := rx
  have hT := dict_typeIs I g
  unfold subscriptTail
  refine wpAny_bind ?_
  rw [getitemInPython_of_ne hT.not_modules]
  refine wpAny_bind (wpAny_specialOf hT PySem.F.slot_dict_getitem.lookup ?_)
  have fin : wpAny (model X.prog X.w) X.A (subscripted slice false (Value.ref a) u) (fun r s₃ => wpAny (model X.prog X.w) X.A (letTemporaryGo value (Value.ref a) r >>= fun _ => pure r) (EP X pins σ Q) X.xe s₃) X.xe s := by
    rw [hs]
    exact wpAny_operating (wpAny_mono (d_getItem (Q := fun r s₃ => EP X pins σ Q r s₃) hu I g ry fun w' s3 I3 rw' => ⟨w, H, I3, rw', q⟩) (fun r s₃ h₃ => wpAny_bind (wpAny_letTemporaryGo (wpAny_pure h₃))) fun _ _ x => x)
  first
    | exact wpAny_pure (wpAny_bind fin)
    | exact wpAny_bind (wpAny_pure (wpAny_bind fin))
    | exact wpAny_bind fin
end
end Gw

set_option Elab.async false
set_option linter.all false
set_option maxRecDepth 100000
set_option maxHeartbeats 1000000
/-! The value layer, part 5: comparisons, truth, places. -/
namespace Gw
open PySem L2

mutual
def toP : D → PyData
  | .non => .none
  | .bl b => .bool b
  | .int i => .int i
  | .str l => .str (mkS l)
  | .lst ds => .list (toPs ds)
  | .tup ds => .tuple (toPs ds)
  | .dct _ => .dict []
  | .scr _ => .dict []
  | .adr _ => .dict []
def toPs : List D → List PyData
  | [] => []
  | d :: ds => toP d :: toPs ds
end
section
variable {X : Cx} {K : PySem.W.Frag} {M : Addr → Prop} {H : Hp}
mutual
theorem Rp.dp : ∀ {d : D} {v : V}, d.nodct = true → Rp K M H v d → Dp K H v (toP d)
  | .non, _, _, h => by cases h; exact .non
  | .bl b, _, _, h => by cases h; exact .bl b
  | .int i, _, _, h => by cases h; exact .int i
  | .str l, _, _, h => by cases h; exact .str _
  | .lst ds, _, p, h => by
    obtain ⟨a, xs, rfl, g1, _, g3⟩ := h.lstV
    exact .lst (.inl (.inl g1)) (RpA.dp (by simpa [D.nodct] using p) g3)
  | .tup ds, _, p, h => by
    obtain ⟨a, xs, rfl, g1, g3⟩ := h.tupV
    exact .tup g1 (RpA.dp (by simpa [D.nodct] using p) g3)
  | .dct _, _, p, _ => by simp [D.nodct] at p
  | .scr _, _, p, _ => by simp [D.nodct] at p
  | .adr _, _, p, _ => by simp [D.nodct] at p
theorem RpA.dp : ∀ {ds : List D} {vs : List V}, D.nodcts ds = true → RpA K M H vs ds → DpAll K H vs (toPs ds)
  | [], _, _, h => by cases h; exact .nil
  | d :: ds, _, p, h => by
    cases h with
    | cons h1 h2 =>
      simp only [D.nodcts, Bool.and_eq_true] at p
      exact .cons (Rp.dp p.1 h1) (RpA.dp p.2 h2)
end
mutual
theorem nodct_plain : ∀ d : D, d.plain = true → d.nodct = true
  | .non, _ => rfl
  | .bl _, _ => rfl
  | .int _, _ => rfl
  | .str _, _ => rfl
  | .lst ds, h => by
    simp only [D.plain] at h
    simp only [D.nodct]
    exact nodcts_plain ds h
  | .tup ds, h => by
    simp only [D.plain] at h
    simp only [D.nodct]
    exact nodcts_plain ds h
  | .dct _, h => by simp [D.plain] at h
  | .scr _, h => by simp [D.plain] at h
  | .adr _, h => by simp [D.plain] at h
theorem nodcts_plain : ∀ d : List D, D.plains d = true → D.nodcts d = true
  | [], _ => rfl
  | d :: ds, h => by
    simp only [D.plains, Bool.and_eq_true] at h
    simp only [D.nodcts, Bool.and_eq_true]
    exact ⟨nodct_plain d h.1, nodcts_plain ds h.2⟩
end
theorem Ra.dp {d : D} {v : V} (hd : d.nodct = true) (h : Ra K M H v d) : Dp K H v (toP d) := by
  cases h with
  | rp h => exact h.dp hd
  | own e o =>
    cases d with
    | lst ds =>
      obtain ⟨xs, h1, h2⟩ := o
      subst e
      exact .lst (.inl (.inl h1)) (RpA.dp (by simpa [D.nodct] using hd) h2)
    | dct _ => simp [D.nodct] at hd
    | scr _ => simp [D.nodct] at hd
    | adr _ => simp [D.nodct] at hd
    | _ => exact o.elim
theorem mkS_inj {a b : List Nat} : mkS a = mkS b ↔ a = b := ⟨fun h => by
  have := congrArg (fun z : Str => z.cps.toList) h
  exact this, fun h => by rw [h]⟩
theorem mkS_beq (a b : List Nat) : (mkS a == mkS b) = (a == b) := by
  by_cases h : a = b
  · subst h; simp
  · have h2 : mkS a ≠ mkS b := fun e => h (mkS_inj.mp e)
    rw [beq_eq_false_iff_ne.mpr h, beq_eq_false_iff_ne.mpr h2]
mutual
theorem eqv_toP : ∀ (d e : D), d.plain = true → e.plain = true → PyData.eqv (toP d) (toP e) = D.eqb d e
  | .non, e, _, p => by cases e <;> first | rfl | (simp [D.plain] at p; done) | simp [toP, PyData.eqv, D.eqb]
  | .bl b, e, _, p => by cases e <;> first | rfl | (simp [D.plain] at p; done) | simp [toP, PyData.eqv, D.eqb]
  | .int b, e, _, p => by cases e <;> first | rfl | (simp [D.plain] at p; done) | simp [toP, PyData.eqv, D.eqb]
  | .str b, e, _, p => by
    cases e with
    | str c => simp only [toP, PyData.eqv, D.eqb]; exact mkS_beq b c
    | dct _ => simp [D.plain] at p
    | scr _ => simp [D.plain] at p
    | adr _ => simp [D.plain] at p
    | _ => simp [toP, PyData.eqv, D.eqb]
  | .lst b, e, q, p => by
    cases e with
    | lst c =>
      simp only [toP, PyData.eqv, D.eqb]
      exact eqv_toPs b c (by simpa [D.plain] using q) (by simpa [D.plain] using p)
    | dct _ => simp [D.plain] at p
    | scr _ => simp [D.plain] at p
    | adr _ => simp [D.plain] at p
    | _ => simp [toP, PyData.eqv, D.eqb]
  | .tup b, e, q, p => by
    cases e with
    | tup c =>
      simp only [toP, PyData.eqv, D.eqb]
      exact eqv_toPs b c (by simpa [D.plain] using q) (by simpa [D.plain] using p)
    | dct _ => simp [D.plain] at p
    | scr _ => simp [D.plain] at p
    | adr _ => simp [D.plain] at p
    | _ => simp [toP, PyData.eqv, D.eqb]
  | .dct _, _, q, _ => by simp [D.plain] at q
  | .scr _, _, q, _ => by simp [D.plain] at q
  | .adr _, _, q, _ => by simp [D.plain] at q
theorem eqv_toPs : ∀ (d e : List D), D.plains d = true → D.plains e = true → PyData.eqvAll (toPs d) (toPs e) = D.eqbs d e
  | [], [], _, _ => by simp [toPs, PyData.eqvAll, D.eqbs]
  | [], _ :: _, _, _ => by simp [toPs, PyData.eqvAll, D.eqbs]
  | _ :: _, [], _, _ => by simp [toPs, PyData.eqvAll, D.eqbs]
  | d :: ds, e :: es, p, q => by
    simp only [D.plains, Bool.and_eq_true] at p q
    simp only [toPs, PyData.eqvAll, D.eqbs]
    rw [eqv_toP d e p.1 q.1, eqv_toPs ds es p.2 q.2]
end
mutual
theorem lay_toP : ∀ d : D, d.plain = true → (toP d).canLay0 = true ∧ (toP d).depth = d.depth
  | .non, _ => ⟨rfl, rfl⟩
  | .bl _, _ => ⟨rfl, rfl⟩
  | .int _, _ => ⟨rfl, rfl⟩
  | .str l, p => by
    refine ⟨?_, rfl⟩
    simp only [toP, PyData.canLay0, PyData.strOk]
    simp only [D.plain] at p
    rw [show (mkS l).cps = l.toArray from rfl, List.all_toArray]
    simpa using p
  | .lst ds, p => by
    have h := lay_toPs ds (by simpa [D.plain] using p)
    simp only [toP, PyData.canLay0, PyData.depth, D.depth]
    exact ⟨h.1, by rw [h.2]⟩
  | .tup ds, p => by
    have h := lay_toPs ds (by simpa [D.plain] using p)
    simp only [toP, PyData.canLay0, PyData.depth, D.depth]
    exact ⟨h.1, by rw [h.2]⟩
  | .dct _, p => by simp [D.plain] at p
  | .scr _, p => by simp [D.plain] at p
  | .adr _, p => by simp [D.plain] at p
theorem lay_toPs : ∀ d : List D, D.plains d = true → PyData.canLayAll0 (toPs d) = true ∧ PyData.depthAll (toPs d) = D.depths d
  | [], _ => ⟨rfl, rfl⟩
  | d :: ds, p => by
    simp only [D.plains, Bool.and_eq_true] at p
    have h1 := lay_toP d p.1
    have h2 := lay_toPs ds p.2
    simp only [toPs, PyData.canLayAll0, PyData.depthAll, D.depths]
    exact ⟨by rw [h1.1, h2.1]; rfl, by rw [h1.2, h2.2]⟩
end
theorem shaped_toP {d : D} (h : d.shaped = true) : SeqAt.shaped (toP d) = true := by
  unfold D.shaped at h
  rw [Bool.and_eq_true] at h
  have q := lay_toP d h.1
  unfold SeqAt.shaped
  rw [q.1, q.2, h.2]; rfl
theorem plain_of_shaped {d : D} (h : d.shaped = true) : d.plain = true := by
  unfold D.shaped at h
  rw [Bool.and_eq_true] at h
  exact h.1

/-! ### == and != -/
theorem scal_flat {d e : D} (h : D.scal d e = true) : d.flat = true ∧ e.flat = true := by
  cases d <;> cases e <;> first | exact ⟨rfl, rfl⟩ | (simp [D.scal, D.flat] at h)
theorem scal_of {d e : D} {x y : V} (h : D.scal d e = true) (hx : Ra K M H x d) (hy : Ra K M H y e) : L2.scal x y = true ∧ decide (x = y) = D.eqb d e := by
  have hx := hx.flatR (scal_flat h).1
  have hy := hy.flatR (scal_flat h).2
  cases d <;> cases e <;> first | (simp [D.scal, D.flat] at h; done) | skip
  all_goals
    cases hx
    cases hy
    refine ⟨rfl, ?_⟩
    simp only [D.eqb]
    first
      | rfl
      | (rw [dec_int])
      | (rw [dec_bl])
      | (rw [dec_str]; exact mkS_beq _ _)
      | (simp)
def cb (o : Option Bool) : Option Rv := o.map fun b => .val (.bl b)
theorem cb_some {o : Option Bool} {r : Rv} (h : cb o = some r) : ∃ b, o = some b ∧ r = .val (.bl b) := by
  cases o with
  | none => cases h
  | some b => exact ⟨b, rfl, by cases h; rfl⟩
theorem dEqO_cases {a b : D} {k : Bool} (h : dEqO a b = some k) : k = D.eqb a b ∧ (D.scal a b = true ∨ (a.shaped = true ∧ b.shaped = true)) := by
  unfold dEqO at h
  by_cases h1 : D.scal a b = true
  · rw [if_pos h1] at h
    exact ⟨(Option.some.inj h).symm, .inl h1⟩
  · rw [if_neg h1] at h
    by_cases h2 : (a.shaped && b.shaped) = true
    · rw [if_pos h2] at h
      rw [Bool.and_eq_true] at h2
      exact ⟨(Option.some.inj h).symm, .inr h2⟩
    · rw [if_neg h2] at h; cases h
theorem opd_eq (hu : X.A.units + 64 < cLine) : OpR X (compareOp .Eq) (opD X.K fun a b => cb (dCmp .eq a b)) := by
  intro pins s σ H x y v u Q I rx ry ⟨B, ss, vs, d, e, r, hR, hx, hy, hg, hQ⟩
  obtain ⟨k, hk, rfl⟩ := cb_some hg
  obtain ⟨rfl, h⟩ := dEqO_cases (show dEqO d e = some k from hk)
  rcases h with h | ⟨h1, h2⟩
  · obtain ⟨g1, g2⟩ := scal_of h hx hy
    refine op_eq pins s σ H _ _ v u Q I rx ry ⟨g1, ?_⟩
    rw [g2]
    exact fin_val hR (.bl _) hQ
  · refine op_eqD hu pins s σ H _ _ v u Q I rx ry ⟨_, _, hx.dp (nodct_plain _ (plain_of_shaped h1)), hy.dp (nodct_plain _ (plain_of_shaped h2)), shaped_toP h1, shaped_toP h2, ?_⟩
    rw [eqv_toP d e (plain_of_shaped h1) (plain_of_shaped h2)]
    exact fin_val hR (.bl _) hQ
theorem opd_ne (hu : X.A.units + 64 < cLine) : OpR X (compareOp .NotEq) (opD X.K fun a b => cb (dCmp .ne a b)) := by
  intro pins s σ H x y v u Q I rx ry ⟨B, ss, vs, d, e, r, hR, hx, hy, hg, hQ⟩
  obtain ⟨k, hk, rfl⟩ := cb_some hg
  obtain ⟨k', hk', rfl⟩ : ∃ k', dEqO d e = some k' ∧ k = !k' := by
    have hk : (dEqO d e).map (!·) = some k := hk
    cases q : dEqO d e with
    | none => rw [q] at hk; cases hk
    | some k' => rw [q] at hk; exact ⟨k', rfl, (Option.some.inj hk).symm⟩
  obtain ⟨rfl, h⟩ := dEqO_cases hk'
  rcases h with h | ⟨h1, h2⟩
  · obtain ⟨g1, g2⟩ := scal_of h hx hy
    refine op_ne pins s σ H _ _ v u Q I rx ry ⟨g1, ?_⟩
    rw [g2]
    exact fin_val hR (.bl _) hQ
  · refine op_neD hu pins s σ H _ _ v u Q I rx ry ⟨_, _, hx.dp (nodct_plain _ (plain_of_shaped h1)), hy.dp (nodct_plain _ (plain_of_shaped h2)), shaped_toP h1, shaped_toP h2, ?_⟩
    rw [eqv_toP d e (plain_of_shaped h1) (plain_of_shaped h2)]
    exact fin_val hR (.bl _) hQ

/-! ### < <= > >= -/
theorem ltL_iff : ∀ a b : List Nat, ltL a b = decide (a < b)
  | a, [] => by
    have h : ¬ a < ([] : List Nat) := fun h => by cases h
    rw [decide_eq_false h]; cases a <;> rfl
  | [], b :: bs => by
    have h : ([] : List Nat) < b :: bs := List.Lex.nil
    rw [decide_eq_true h]; rfl
  | a :: as, b :: bs => by
    have ih := ltL_iff as bs
    unfold ltL
    by_cases h1 : a < b
    · have h : (a :: as) < b :: bs := List.Lex.rel h1
      rw [if_pos h1, decide_eq_true h]
    · rw [if_neg h1]
      by_cases h2 : a = b
      · subst h2
        rw [if_pos rfl, ih]
        by_cases h3 : as < bs
        · have h : (a :: as) < a :: bs := List.Lex.cons h3
          rw [decide_eq_true h3, decide_eq_true h]
        · have h4 : ¬ (a :: as) < a :: bs := fun h => by
            cases h with
            | cons h => exact h3 h
            | rel h => exact h1 h
          rw [decide_eq_false h3, decide_eq_false h4]
      · rw [if_neg h2]
        have h4 : ¬ (a :: as) < b :: bs := fun h => by
          cases h with
          | cons h => exact h2 rfl
          | rel h => exact h1 h
        rw [decide_eq_false h4]
mutual
theorem alike_toP : ∀ d e : D, D.alike d e = true → PySem.W.alike (toP d) (toP e) = true
  | .non, e, h => by cases e <;> first | (simp [toP, PySem.W.alike]; done) | (simp [D.alike] at h; done)
  | .bl _, e, h => by cases e <;> first | (simp [toP, PySem.W.alike]; done) | (simp [D.alike] at h; done)
  | .int _, e, h => by cases e <;> first | (simp [toP, PySem.W.alike]; done) | (simp [D.alike] at h; done)
  | .str _, e, h => by cases e <;> first | (simp [toP, PySem.W.alike]; done) | (simp [D.alike] at h; done)
  | .lst a, e, h => by
    cases e with
    | lst b =>
      simp only [D.alike] at h
      simp only [toP, PySem.W.alike]
      exact alikes_toP a b h
    | _ => simp [D.alike] at h
  | .tup a, e, h => by
    cases e with
    | tup b =>
      simp only [D.alike] at h
      simp only [toP, PySem.W.alike]
      exact alikes_toP a b h
    | _ => simp [D.alike] at h
  | .dct _, e, h => by cases e <;> simp [D.alike] at h
  | .scr _, e, h => by cases e <;> simp [D.alike] at h
  | .adr _, e, h => by cases e <;> simp [D.alike] at h
theorem alikes_toP : ∀ d e : List D, D.alikes d e = true → PySem.W.alikeAll (toPs d) (toPs e) = true
  | [], e, _ => by simp [toPs, PySem.W.alikeAll]
  | _ :: _, [], _ => by simp [toPs, PySem.W.alikeAll]
  | d :: ds, e :: es, h => by
    simp only [D.alikes, Bool.and_eq_true] at h
    simp only [toPs, PySem.W.alikeAll, Bool.and_eq_true]
    exact ⟨alike_toP d e h.1, alikes_toP ds es h.2⟩
end
mutual
theorem eqv_alike : ∀ d e : D, D.alike d e = true → PyData.eqv (toP d) (toP e) = D.eqb d e
  | .non, e, h => by cases e <;> first | (simp [toP, PyData.eqv, D.eqb]; done) | (simp [D.alike] at h; done)
  | .bl _, e, h => by cases e <;> first | (simp [toP, PyData.eqv, D.eqb]; done) | (simp [D.alike] at h; done)
  | .int _, e, h => by cases e <;> first | (simp [toP, PyData.eqv, D.eqb]; done) | (simp [D.alike] at h; done)
  | .str a, e, h => by
    cases e with
    | str b => simp only [toP, PyData.eqv, D.eqb]; exact mkS_beq a b
    | _ => simp [D.alike] at h
  | .lst a, e, h => by
    cases e with
    | lst b =>
      simp only [D.alike] at h
      simp only [toP, PyData.eqv, D.eqb]
      exact eqvs_alike a b h
    | _ => simp [D.alike] at h
  | .tup a, e, h => by
    cases e with
    | tup b =>
      simp only [D.alike] at h
      simp only [toP, PyData.eqv, D.eqb]
      exact eqvs_alike a b h
    | _ => simp [D.alike] at h
  | .dct _, e, h => by cases e <;> simp [D.alike] at h
  | .scr _, e, h => by cases e <;> simp [D.alike] at h
  | .adr _, e, h => by cases e <;> simp [D.alike] at h
theorem eqvs_alike : ∀ d e : List D, D.alikes d e = true → PyData.eqvAll (toPs d) (toPs e) = D.eqbs d e
  | [], [], _ => by simp [toPs, PyData.eqvAll, D.eqbs]
  | [], _ :: _, _ => by simp [toPs, PyData.eqvAll, D.eqbs]
  | _ :: _, [], _ => by simp [toPs, PyData.eqvAll, D.eqbs]
  | d :: ds, e :: es, h => by
    simp only [D.alikes, Bool.and_eq_true] at h
    simp only [toPs, PyData.eqvAll, D.eqbs]
    rw [eqv_alike d e h.1, eqvs_alike ds es h.2]
end
mutual
theorem ltb_toP : ∀ d e : D, D.alike d e = true → PySem.W.dataLt (toP d) (toP e) = D.ltb d e
  | .non, e, h => by
    cases e with
    | non => simp only [toP, D.ltb]; rfl
    | _ => simp [D.alike] at h
  | .bl a, e, h => by
    cases e with
    | bl b => simp only [toP, D.ltb]; rw [PySem.W.dataLt_bool]; cases a <;> cases b <;> rfl
    | _ => simp [D.alike] at h
  | .int a, e, h => by
    cases e with
    | int b => simp only [toP, D.ltb]; exact PySem.W.dataLt_int a b
    | _ => simp [D.alike] at h
  | .str a, e, h => by
    cases e with
    | str b => simp only [toP, D.ltb]; rw [PySem.W.dataLt_str, ltL_iff]; rfl
    | _ => simp [D.alike] at h
  | .lst a, e, h => by
    cases e with
    | lst b =>
      simp only [D.alike] at h
      simp only [toP, D.ltb]
      rw [PySem.W.dataLt_list]
      exact ltbs_toP a b h
    | _ => simp [D.alike] at h
  | .tup a, e, h => by
    cases e with
    | tup b =>
      simp only [D.alike] at h
      simp only [toP, D.ltb]
      rw [PySem.W.dataLt_tuple]
      exact ltbs_toP a b h
    | _ => simp [D.alike] at h
  | .dct _, e, h => by cases e <;> simp [D.alike] at h
  | .scr _, e, h => by cases e <;> simp [D.alike] at h
  | .adr _, e, h => by cases e <;> simp [D.alike] at h
theorem ltbs_toP : ∀ d e : List D, D.alikes d e = true → PyProof.Rows.lexLt PyProof.Rows.itemOrd (PySem.W.keyToksAll (toPs d)) (PySem.W.keyToksAll (toPs e)) = D.ltbs d e
  | [], [], _ => by
    simp only [toPs, D.ltbs]
    decide +kernel
  | _ :: _, [], _ => by
    simp only [toPs, D.ltbs, PySem.W.keyToksAll]
    rfl
  | [], _ :: _, _ => by
    simp only [toPs, D.ltbs, PySem.W.keyToksAll]
    rfl
  | d :: ds, e :: es, h => by
    simp only [D.alikes, Bool.and_eq_true] at h
    simp only [toPs, D.ltbs]
    rw [PySem.W.dataLt_cons (alike_toP d e h.1), eqv_alike d e h.1, ltb_toP d e h.1, ltbs_toP ds es h.2]
end
mutual
theorem depth_toP : ∀ d : D, d.nodct = true → (toP d).depth = d.depth
  | .non, _ => rfl
  | .bl _, _ => rfl
  | .int _, _ => rfl
  | .str l, p => rfl
  | .lst ds, p => by
    simp only [D.nodct] at p
    simp only [toP, PyData.depth, D.depth]
    rw [depths_toP ds p]
  | .tup ds, p => by
    simp only [D.nodct] at p
    simp only [toP, PyData.depth, D.depth]
    rw [depths_toP ds p]
  | .dct _, p => by simp [D.nodct] at p
  | .scr _, p => by simp [D.nodct] at p
  | .adr _, p => by simp [D.nodct] at p
theorem depths_toP : ∀ d : List D, D.nodcts d = true → PyData.depthAll (toPs d) = D.depths d
  | [], _ => rfl
  | d :: ds, p => by
    simp only [D.nodcts, Bool.and_eq_true] at p
    simp only [toPs, PyData.depthAll, D.depths]
    rw [depth_toP d p.1, depths_toP ds p.2]
end
theorem alike_symm_non {d e : D} (h : ordOk d e = true) : d.nodct = true ∧ e.nodct = true ∧ D.alike d e = true ∧ d.depth ≤ 60 ∧ toP d ≠ .none := by
  unfold ordOk at h
  simp only [Bool.and_eq_true, decide_eq_true_eq] at h
  obtain ⟨⟨⟨⟨h1, h2⟩, h3⟩, h4⟩, h5⟩ := h
  refine ⟨h1, h2, h3, h4, ?_⟩
  cases d with
  | non => simp at h5
  | _ => intro z; simp [toP] at z
mutual
theorem alike_symm : ∀ d e : D, D.alike d e = true → D.alike e d = true
  | .non, e, h => by cases e <;> first | (simp [D.alike]; done) | (simp [D.alike] at h; done)
  | .bl _, e, h => by cases e <;> first | (simp [D.alike]; done) | (simp [D.alike] at h; done)
  | .int _, e, h => by cases e <;> first | (simp [D.alike]; done) | (simp [D.alike] at h; done)
  | .str _, e, h => by cases e <;> first | (simp [D.alike]; done) | (simp [D.alike] at h; done)
  | .lst a, e, h => by
    cases e with
    | lst b => simp only [D.alike] at h ⊢; exact alikes_symm a b h
    | _ => simp [D.alike] at h
  | .tup a, e, h => by
    cases e with
    | tup b => simp only [D.alike] at h ⊢; exact alikes_symm a b h
    | _ => simp [D.alike] at h
  | .dct _, e, h => by cases e <;> simp [D.alike] at h
  | .scr _, e, h => by cases e <;> simp [D.alike] at h
  | .adr _, e, h => by cases e <;> simp [D.alike] at h
theorem alikes_symm : ∀ d e : List D, D.alikes d e = true → D.alikes e d = true
  | [], [], _ => by simp [D.alikes]
  | [], _ :: _, _ => by simp [D.alikes]
  | _ :: _, [], _ => by simp [D.alikes]
  | d :: ds, e :: es, h => by
    simp only [D.alikes, Bool.and_eq_true] at h ⊢
    exact ⟨alike_symm d e h.1, alikes_symm ds es h.2⟩
end
theorem Dp.rd {pins : List (Addr × Obj)} {σ : L2.St} {s : Shared} (I : L2.Inv X pins σ H s) {d : D} {x : V} {v : Value} (hd : d.nodct = true) (hx : Ra X.K M H x d) (rx : RelV x v) : ∃ as, Reads s.heap v (toP d) as :=
  L2.Dp.reads I _ _ _ (hx.dp hd) rx
theorem opd_lt (hu : X.A.units + 64 < cLine) : OpR X (compareOp .Lt) (opD X.K fun a b => cb (dCmp .lt a b)) := by
  intro pins s σ H x y v u Q I rx ry ⟨B, ss, vs, d, e, r, hR, hx, hy, hg, hQ⟩
  obtain ⟨k, hk, rfl⟩ := cb_some hg
  have gen : ∀ k, (if ordOk d e then some (D.ltb d e) else none) = some k → (∀ u H', R X.K B (ss ++ [(Rv.val (.bl k)).sl]) (vs ++ [some u]) H' → Q u H') → wpAny (model X.prog X.w) X.A (compareOp .Lt v u) (EP X pins σ Q) X.xe s := fun k hk hQ => by
    by_cases ho : ordOk d e = true
    · rw [if_pos ho] at hk
      cases hk
      obtain ⟨h1, h2, h3, h4, h5⟩ := alike_symm_non ho
      obtain ⟨as, ra⟩ := Dp.rd I h1 hx rx
      obtain ⟨bs, rb⟩ := Dp.rd I h2 hy ry
      refine PySem.W.lt_data ra rb (alike_toP d e h3) h5 (by rw [depth_toP d h1]; omega) ?_
      rw [ltb_toP d e h3]
      exact ⟨.bl _, H, I, rfl, fin_val hR (.bl _) hQ⟩
    · rw [if_neg ho] at hk; cases hk
  cases d with
  | int a =>
    cases e with
    | int b =>
      cases hk
      rw [hx.intV] at rx; rw [hy.intV] at ry
      exact op_lt pins s σ H _ _ v u Q I rx ry ⟨a, b, rfl, rfl, fin_val hR (.bl _) hQ⟩
    | _ => exact gen k hk hQ
  | str a =>
    cases e with
    | str b =>
      cases hk
      rw [hx.strV] at rx; rw [hy.strV] at ry
      refine op_lt_str pins s σ H _ _ v u Q I rx ry ⟨_, _, rfl, rfl, ?_⟩
      rw [ltL_iff] at hQ
      exact fin_val hR (.bl _) hQ
    | _ => exact gen k hk hQ
  | _ => exact gen k hk hQ
theorem opd_le (hu : X.A.units + 64 < cLine) : OpR X (compareOp .LtE) (opD X.K fun a b => cb (dCmp .le a b)) := by
  intro pins s σ H x y v u Q I rx ry ⟨B, ss, vs, d, e, r, hR, hx, hy, hg, hQ⟩
  obtain ⟨k, hk, rfl⟩ := cb_some hg
  have gen : ∀ k, (if ordOk d e then some (!D.ltb e d) else none) = some k → (∀ u H', R X.K B (ss ++ [(Rv.val (.bl k)).sl]) (vs ++ [some u]) H' → Q u H') → wpAny (model X.prog X.w) X.A (compareOp .LtE v u) (EP X pins σ Q) X.xe s := fun k hk hQ => by
    by_cases ho : ordOk d e = true
    · rw [if_pos ho] at hk
      cases hk
      obtain ⟨h1, h2, h3, h4, h5⟩ := alike_symm_non ho
      obtain ⟨as, ra⟩ := Dp.rd I h1 hx rx
      obtain ⟨bs, rb⟩ := Dp.rd I h2 hy ry
      refine PySem.W.le_data ra rb (alike_toP d e h3) h5 (by rw [depth_toP d h1]; omega) ?_
      rw [ltb_toP e d (alike_symm d e h3)]
      exact ⟨.bl _, H, I, rfl, fin_val hR (.bl _) hQ⟩
    · rw [if_neg ho] at hk; cases hk
  cases d with
  | int a =>
    cases e with
    | int b =>
      cases hk
      rw [hx.intV] at rx; rw [hy.intV] at ry
      exact op_le pins s σ H _ _ v u Q I rx ry ⟨a, b, rfl, rfl, fin_val hR (.bl _) hQ⟩
    | _ => exact gen k hk hQ
  | str a =>
    cases e with
    | str b =>
      cases hk
      rw [hx.strV] at rx; rw [hy.strV] at ry
      refine op_le_str pins s σ H _ _ v u Q I rx ry ⟨_, _, rfl, rfl, ?_⟩
      rw [ltL_iff] at hQ
      exact fin_val hR (.bl _) hQ
    | _ => exact gen k hk hQ
  | _ => exact gen k hk hQ
theorem opd_gt (hu : X.A.units + 64 < cLine) : OpR X (compareOp .Gt) (opD X.K fun a b => cb (dCmp .gt a b)) := by
  intro pins s σ H x y v u Q I rx ry ⟨B, ss, vs, d, e, r, hR, hx, hy, hg, hQ⟩
  obtain ⟨k, hk, rfl⟩ := cb_some hg
  have gen : ∀ k, (if ordOk d e then some (D.ltb e d) else none) = some k → (∀ u H', R X.K B (ss ++ [(Rv.val (.bl k)).sl]) (vs ++ [some u]) H' → Q u H') → wpAny (model X.prog X.w) X.A (compareOp .Gt v u) (EP X pins σ Q) X.xe s := fun k hk hQ => by
    by_cases ho : ordOk d e = true
    · rw [if_pos ho] at hk
      cases hk
      obtain ⟨h1, h2, h3, h4, h5⟩ := alike_symm_non ho
      obtain ⟨as, ra⟩ := Dp.rd I h1 hx rx
      obtain ⟨bs, rb⟩ := Dp.rd I h2 hy ry
      refine PySem.W.gt_data ra rb (alike_toP d e h3) h5 (by rw [depth_toP d h1]; omega) ?_
      rw [ltb_toP e d (alike_symm d e h3)]
      exact ⟨.bl _, H, I, rfl, fin_val hR (.bl _) hQ⟩
    · rw [if_neg ho] at hk; cases hk
  cases d with
  | int a =>
    cases e with
    | int b =>
      cases hk
      rw [hx.intV] at rx; rw [hy.intV] at ry
      exact op_gt pins s σ H _ _ v u Q I rx ry ⟨a, b, rfl, rfl, fin_val hR (.bl _) hQ⟩
    | _ => exact gen k hk hQ
  | str a =>
    cases e with
    | str b =>
      cases hk
      rw [hx.strV] at rx; rw [hy.strV] at ry
      refine op_gt_str pins s σ H _ _ v u Q I rx ry ⟨_, _, rfl, rfl, ?_⟩
      rw [ltL_iff] at hQ
      exact fin_val hR (.bl _) hQ
    | _ => exact gen k hk hQ
  | _ => exact gen k hk hQ
theorem opd_ge (hu : X.A.units + 64 < cLine) : OpR X (compareOp .GtE) (opD X.K fun a b => cb (dCmp .ge a b)) := by
  intro pins s σ H x y v u Q I rx ry ⟨B, ss, vs, d, e, r, hR, hx, hy, hg, hQ⟩
  obtain ⟨k, hk, rfl⟩ := cb_some hg
  have gen : ∀ k, (if ordOk d e then some (!D.ltb d e) else none) = some k → (∀ u H', R X.K B (ss ++ [(Rv.val (.bl k)).sl]) (vs ++ [some u]) H' → Q u H') → wpAny (model X.prog X.w) X.A (compareOp .GtE v u) (EP X pins σ Q) X.xe s := fun k hk hQ => by
    by_cases ho : ordOk d e = true
    · rw [if_pos ho] at hk
      cases hk
      obtain ⟨h1, h2, h3, h4, h5⟩ := alike_symm_non ho
      obtain ⟨as, ra⟩ := Dp.rd I h1 hx rx
      obtain ⟨bs, rb⟩ := Dp.rd I h2 hy ry
      refine PySem.W.ge_data ra rb (alike_toP d e h3) h5 (by rw [depth_toP d h1]; omega) ?_
      rw [ltb_toP d e h3]
      exact ⟨.bl _, H, I, rfl, fin_val hR (.bl _) hQ⟩
    · rw [if_neg ho] at hk; cases hk
  cases d with
  | int a =>
    cases e with
    | int b =>
      cases hk
      rw [hx.intV] at rx; rw [hy.intV] at ry
      exact op_ge pins s σ H _ _ v u Q I rx ry ⟨a, b, rfl, rfl, fin_val hR (.bl _) hQ⟩
    | _ => exact gen k hk hQ
  | str a =>
    cases e with
    | str b =>
      cases hk
      rw [hx.strV] at rx; rw [hy.strV] at ry
      refine op_ge_str pins s σ H _ _ v u Q I rx ry ⟨_, _, rfl, rfl, ?_⟩
      rw [ltL_iff] at hQ
      exact fin_val hR (.bl _) hQ
    | _ => exact gen k hk hQ
  | _ => exact gen k hk hQ

/-! ### in, not in -/
theorem isIn_iff (a : List Nat) : ∀ b : List Nat, isIn a b = true ↔ ∃ i, i + a.length ≤ b.length ∧ (b.drop i).take a.length = a
  | [] => by
    unfold isIn
    constructor
    · intro h
      have : a = [] := List.isEmpty_iff.mp h
      subst this
      exact ⟨0, by simp, rfl⟩
    · rintro ⟨i, h1, h2⟩
      simp at h1
      rw [h1.2]; rfl
  | c :: r => by
    have ih := isIn_iff a r
    unfold isIn
    rw [Bool.or_eq_true, ih, List.isPrefixOf_iff_prefix]
    constructor
    · rintro (h | ⟨i, h1, h2⟩)
      · refine ⟨0, by have := h.length_le; simpa using this, ?_⟩
        rw [List.drop_zero]
        exact (List.prefix_iff_eq_take.mp h).symm
      · exact ⟨i + 1, by simp; omega, by rw [List.drop_succ_cons]; exact h2⟩
    · rintro ⟨i, h1, h2⟩
      cases i with
      | zero =>
        rw [List.drop_zero] at h2
        exact .inl (List.prefix_iff_eq_take.mpr h2.symm)
      | succ i =>
        rw [List.drop_succ_cons] at h2
        exact .inr ⟨i, by simp at h1; omega, h2⟩
theorem occ_isIn (a b : List Nat) : (!(Builtin.Str.occurrences (mkS b) (mkS a) 0 (mkS b).length 1).isEmpty) = isIn a b := by
  rw [Bool.eq_iff_iff, isIn_iff]
  rw [PySem.StrLaws.found_iff]
  refine exists_congr fun i => ?_
  rw [mkS_len, mkS_len]
  refine and_congr_right fun hi => ?_
  unfold Builtin.Str.subAt
  rw [mkS_len, beq_iff_eq]
  constructor
  · intro h
    have := congrArg Array.toList h
    simpa [mkS] using this
  · intro h
    apply Array.toList_inj.mp
    simpa [mkS] using h
theorem eqV_of {d e : D} {x y : V} (fd : d.flat = true) (fe : e.flat = true) (hx : Rp K M H x d) (hy : Rp K M H y e) : flatV x = true ∧ L2.eqV x y = D.eqb d e := by
  cases d <;> cases e <;> first | (simp [D.flat] at fd; done) | (simp [D.flat] at fe; done) | skip
  all_goals
    cases hx
    cases hy
    refine ⟨rfl, ?_⟩
    first
      | rfl
      | exact mkS_beq _ _
      | simp [L2.eqV, D.eqb]
theorem flat_of {d : D} {x : V} (fd : d.flat = true) (hx : Rp K M H x d) : flatV x = true := (eqV_of fd fd hx hx).1
theorem any_of {e : D} {y : V} (fe : e.flat = true) (hy : Rp K M H y e) : ∀ {ds : List D} {xs : List V}, ds.all D.flat = true → RpA K M H xs ds → xs.all flatV = true ∧ (xs.any fun z => L2.eqV z y) = ds.any fun z => D.eqb z e
  | [], _, _, .nil => ⟨rfl, rfl⟩
  | d :: ds, _, p, .cons h t => by
    rw [List.all_cons, Bool.and_eq_true] at p
    obtain ⟨g1, g2⟩ := eqV_of p.1 fe h hy
    obtain ⟨g3, g4⟩ := any_of fe hy p.2 t
    exact ⟨by rw [List.all_cons, g1, g3]; rfl, by rw [List.any_cons, List.any_cons, g2, g4]⟩
theorem toPs_any (e : D) (he : e.plain = true) : ∀ ds : List D, D.plains ds = true → ((toPs ds).any fun z => PyData.eqv z (toP e)) = ds.any fun z => D.eqb z e
  | [], _ => rfl
  | d :: ds, p => by
    simp only [D.plains, Bool.and_eq_true] at p
    rw [toPs, List.any_cons, List.any_cons, eqv_toP d e p.1 he, toPs_any e he ds p.2]
theorem opd_in (hu : X.A.units + 65 < cLine) : OpR X (compareOp .In) (opD X.K fun a b => cb (dCmp .isin a b)) := by
  intro pins s σ H x y v u Q I rx ry ⟨B, ss, vs, d, e, r, hR, hx, hy, hg, hQ⟩
  obtain ⟨k, hk, rfl⟩ := cb_some hg
  have hk : dIn d e = some k := hk
  cases e with
  | lst ds =>
    obtain ⟨p, xs, rfl, g1, g2, g3⟩ := hy.lstV
    simp only [dIn] at hk
    by_cases hf : (d.flat && ds.all D.flat) = true
    · rw [if_pos hf] at hk
      cases hk
      rw [Bool.and_eq_true] at hf
      obtain ⟨g4, g5⟩ := any_of hf.1 (hx.flatR hf.1) hf.2 g3
      refine op_in_seq pins s σ H _ _ v u Q I rx ry ⟨p, xs, rfl, .inl (.inl (.inl g1)), flat_of hf.1 (hx.flatR hf.1), g4, ?_⟩
      simp only [Bool.false_eq_true, if_false]
      rw [show inV x xs = ds.any fun z => D.eqb z d from g5]
      exact fin_val hR (.bl _) hQ
    · rw [if_neg hf] at hk
      by_cases hs : (d.shaped && (D.lst ds).shaped) = true
      · rw [if_pos hs] at hk
        cases hk
        rw [Bool.and_eq_true] at hs
        have pl : D.plains ds = true := by simpa [D.plain] using plain_of_shaped hs.2
        refine op_inD hu pins s σ H _ _ v u Q I rx ry ⟨toP d, toPs ds, hx.dp (nodct_plain _ (plain_of_shaped hs.1)), hy.dp (nodct_plain _ (plain_of_shaped hs.2)), shaped_toP hs.1, shaped_toP hs.2, ?_⟩
        rw [toPs_any d (plain_of_shaped hs.1) ds pl]
        exact fin_val hR (.bl _) hQ
      · rw [if_neg hs] at hk; cases hk
  | tup ds =>
    obtain ⟨p, xs, rfl, g1, g3⟩ := hy.tupV
    simp only [dIn] at hk
    by_cases hf : (d.flat && ds.all D.flat) = true
    · rw [if_pos hf] at hk
      cases hk
      rw [Bool.and_eq_true] at hf
      obtain ⟨g4, g5⟩ := any_of hf.1 (hx.flatR hf.1) hf.2 g3
      refine op_in_seq pins s σ H _ _ v u Q I rx ry ⟨p, xs, rfl, .inr g1, flat_of hf.1 (hx.flatR hf.1), g4, ?_⟩
      simp only [Bool.false_eq_true, if_false]
      rw [show inV x xs = ds.any fun z => D.eqb z d from g5]
      exact fin_val hR (.bl _) hQ
    · rw [if_neg hf] at hk; cases hk
  | str l =>
    cases d with
    | str a =>
      cases hk
      rw [hx.strV] at rx; rw [hy.strV] at ry
      refine op_in_str pins s σ H _ _ v u Q I rx ry ⟨_, _, rfl, rfl, ?_⟩
      rw [occ_isIn]
      exact fin_val hR (.bl _) hQ
    | _ => cases hk
  | dct kvs =>
    simp only [dIn] at hk
    cases ek : kyOf d with
    | none => rw [ek] at hk; cases hk
    | some y0 =>
      rw [ek] at hk
      cases hk
      obtain ⟨kk, g1, g2⟩ := kyOf_kK ek
      obtain ⟨p, xs, e1, g3, g4⟩ := hy.dctV
      subst e1
      obtain rfl : u = Value.ref p := ry
      have ex := g2 (hx.flatR (kyOf_flat ek))
      subst ex
      refine d_in (by omega) I (DGet.k g3) rx fun s3 I3 => ⟨.bl _, H, I3, rfl, ?_⟩
      rcases g4.look g1 with ⟨q1, q2⟩ | ⟨d', v', q1, q2, _⟩
      · simp only [q1] at hQ; rw [q2]
        exact fin_val hR (.bl _) hQ
      · simp only [q1] at hQ; rw [q2]
        exact fin_val hR (.bl _) hQ
  | _ => cases hk
theorem opd_notin (hu : X.A.units + 65 < cLine) : OpR X (compareOp .NotIn) (opD X.K fun a b => cb (dCmp .notin a b)) := by
  intro pins s σ H x y v u Q I rx ry ⟨B, ss, vs, d, e, r, hR, hx, hy, hg, hQ⟩
  obtain ⟨k, hk, rfl⟩ := cb_some hg
  obtain ⟨k', hk', rfl⟩ : ∃ k', dIn d e = some k' ∧ k = !k' := by
    have hk : (dIn d e).map (!·) = some k := hk
    cases q : dIn d e with
    | none => rw [q] at hk; cases hk
    | some k' => rw [q] at hk; exact ⟨k', rfl, (Option.some.inj hk).symm⟩
  have hk := hk'
  cases e with
  | lst ds =>
    obtain ⟨p, xs, rfl, g1, g2, g3⟩ := hy.lstV
    simp only [dIn] at hk
    by_cases hf : (d.flat && ds.all D.flat) = true
    · rw [if_pos hf] at hk
      cases hk
      rw [Bool.and_eq_true] at hf
      obtain ⟨g4, g5⟩ := any_of hf.1 (hx.flatR hf.1) hf.2 g3
      refine op_notIn_seq pins s σ H _ _ v u Q I rx ry ⟨p, xs, rfl, .inl (.inl (.inl g1)), flat_of hf.1 (hx.flatR hf.1), g4, ?_⟩
      simp only [if_true]
      rw [show inV x xs = ds.any fun z => D.eqb z d from g5]
      exact fin_val hR (.bl _) hQ
    · rw [if_neg hf] at hk
      by_cases hs : (d.shaped && (D.lst ds).shaped) = true
      · rw [if_pos hs] at hk
        cases hk
        rw [Bool.and_eq_true] at hs
        have pl : D.plains ds = true := by simpa [D.plain] using plain_of_shaped hs.2
        refine op_notInD hu pins s σ H _ _ v u Q I rx ry ⟨toP d, toPs ds, hx.dp (nodct_plain _ (plain_of_shaped hs.1)), hy.dp (nodct_plain _ (plain_of_shaped hs.2)), shaped_toP hs.1, shaped_toP hs.2, ?_⟩
        rw [toPs_any d (plain_of_shaped hs.1) ds pl]
        exact fin_val hR (.bl _) hQ
      · rw [if_neg hs] at hk; cases hk
  | tup ds =>
    obtain ⟨p, xs, rfl, g1, g3⟩ := hy.tupV
    simp only [dIn] at hk
    by_cases hf : (d.flat && ds.all D.flat) = true
    · rw [if_pos hf] at hk
      cases hk
      rw [Bool.and_eq_true] at hf
      obtain ⟨g4, g5⟩ := any_of hf.1 (hx.flatR hf.1) hf.2 g3
      refine op_notIn_seq pins s σ H _ _ v u Q I rx ry ⟨p, xs, rfl, .inr g1, flat_of hf.1 (hx.flatR hf.1), g4, ?_⟩
      simp only [if_true]
      rw [show inV x xs = ds.any fun z => D.eqb z d from g5]
      exact fin_val hR (.bl _) hQ
    · rw [if_neg hf] at hk; cases hk
  | str l =>
    cases d with
    | str a =>
      cases hk
      rw [hx.strV] at rx; rw [hy.strV] at ry
      refine op_notin_str pins s σ H _ _ v u Q I rx ry ⟨_, _, rfl, rfl, ?_⟩
      rw [occ_isIn]
      exact fin_val hR (.bl _) hQ
    | _ => cases hk
  | dct kvs =>
    simp only [dIn] at hk
    cases ek : kyOf d with
    | none => rw [ek] at hk; cases hk
    | some y0 =>
      rw [ek] at hk
      cases hk
      obtain ⟨kk, g1, g2⟩ := kyOf_kK ek
      obtain ⟨p, xs, e1, g3, g4⟩ := hy.dctV
      subst e1
      obtain rfl : u = Value.ref p := ry
      have ex := g2 (hx.flatR (kyOf_flat ek))
      subst ex
      refine d_notIn (by omega) I (DGet.k g3) rx fun s3 I3 => ⟨.bl _, H, I3, rfl, ?_⟩
      rcases g4.look g1 with ⟨q1, q2⟩ | ⟨d', v', q1, q2, _⟩
      · simp only [q1] at hQ; rw [q2]
        exact fin_val hR (.bl _) hQ
      · simp only [q1] at hQ; rw [q2]
        exact fin_val hR (.bl _) hQ
  | _ => cases hk
theorem non_iff {d : D} {x : V} (hx : Ra K M H x d) : decide (x = .non) = d.isNon := by
  cases hx with
  | rp hx => cases hx <;> simp [D.isNon]
  | own e o =>
    subst e
    cases d <;> first | exact o.elim | simp [D.isNon]
theorem opd_isN : OpR X (compareOp .Is) (opD X.K fun a b => cb (dCmp .isnone a b)) := by
  intro pins s σ H x y v u Q I rx ry ⟨B, ss, vs, d, e, r, hR, hx, hy, hg, hQ⟩
  obtain ⟨k, hk, rfl⟩ := cb_some hg
  cases e with
  | non =>
    simp only [dCmp] at hk
    cases hk
    refine op_isN pins s σ H _ _ v u Q I rx ry ⟨hy.nonV, ?_⟩
    rw [non_iff hx]
    exact fin_val hR (.bl _) hQ
  | _ => cases d <;> simp [dCmp] at hk
theorem opd_notN : OpR X (compareOp .IsNot) (opD X.K fun a b => cb (dCmp .notnone a b)) := by
  intro pins s σ H x y v u Q I rx ry ⟨B, ss, vs, d, e, r, hR, hx, hy, hg, hQ⟩
  obtain ⟨k, hk, rfl⟩ := cb_some hg
  cases e with
  | non =>
    simp only [dCmp] at hk
    cases hk
    refine op_notN pins s σ H _ _ v u Q I rx ry ⟨hy.nonV, ?_⟩
    rw [non_iff hx]
    exact fin_val hR (.bl _) hQ
  | _ => cases d <;> simp [dCmp] at hk
def copP : Cop → CmpOp
  | .eq => .Eq | .ne => .NotEq | .lt => .Lt | .le => .LtE | .gt => .Gt | .ge => .GtE | .isin => .In | .notin => .NotIn | .isnone => .Is | .notnone => .IsNot
theorem opd_cmp (hu : X.A.units + 65 < cLine) : ∀ op : Cop, OpR X (compareOp (copP op)) (opD X.K fun a b => cb (dCmp op a b))
  | .eq => opd_eq (by omega) | .ne => opd_ne (by omega) | .lt => opd_lt (by omega) | .le => opd_le (by omega) | .gt => opd_gt (by omega) | .ge => opd_ge (by omega) | .isin => opd_in hu | .notin => opd_notin hu | .isnone => opd_isN | .notnone => opd_notN

/-! ### truth -/
theorem truV_of {d : D} {x : V} {b : Bool} (hx : Rp K M H x d) (h : dTruth d = some b) : TruV K x H b := by
  cases d with
  | non => cases h; cases hx; rfl
  | bl b => cases h; cases hx; rfl
  | int i =>
    cases h; cases hx
    show decide (i ≠ 0) = (i != 0)
    by_cases e : i = 0
    · subst e; rfl
    · rw [decide_eq_true e]; simp [e]
  | str l =>
    cases hx
    simp only [dTruth] at h
    by_cases hz : lineOk l.length = true
    · rw [if_pos hz] at h
      cases h
      refine ⟨by rw [mkS_len]; exact lineOk_iff hz, ?_⟩
      rw [mkS_len]
      cases l with
      | nil => rfl
      | cons c r => simp; omega
    · rw [if_neg hz] at h; cases h
  | lst l =>
    cases h
    obtain ⟨p, xs, rfl, g1, g2, g3⟩ := hx.lstV
    refine .inl ⟨xs, .inl (.inl g1), ?_⟩
    cases g3 <;> rfl
  | tup l =>
    cases h
    obtain ⟨p, xs, rfl, g1, g3⟩ := hx.tupV
    refine .inr (.inl ⟨xs, g1, ?_⟩)
    cases g3 <;> rfl
  | dct _ => cases h
  | scr _ => cases h
  | adr _ => cases h

/-! ### places -/
theorem ixd (hu : X.A.units + 65 < cLine) : IxR X (opD X.K fun a b => (dIdx a b).map .val) := by
  intro value slice pins s σ H x y v u Q I rx ry ⟨B, ss, vs, d, e, r, hR, hx, hy, hg, hQ⟩ hs
  obtain ⟨z, hz, rfl⟩ : ∃ z, dIdx d e = some z ∧ r = .val z := by
    have hg : (dIdx d e).map Rv.val = some r := hg
    cases q : dIdx d e with
    | none => rw [q] at hg; cases hg
    | some z => rw [q] at hg; exact ⟨z, rfl, (Option.some.inj hg).symm⟩
  cases d with
  | lst ds =>
    cases e with
    | int i =>
      obtain ⟨p, xs, rfl, g1, g2, g3⟩ := hx.lstV
      obtain ⟨w, h1, h2⟩ := g3.atI (show Gw.atI ds i = some z from hz)
      exact ix_list value slice pins s σ H _ _ v u Q I rx ry ⟨p, xs, i, w, rfl, hy.intV, .inl (.inl g1), h1, fin_val hR h2 hQ⟩ hs
    | _ => cases hz
  | tup ds =>
    cases e with
    | int i =>
      obtain ⟨p, xs, rfl, g1, g3⟩ := hx.tupV
      obtain ⟨w, h1, h2⟩ := g3.atI (show Gw.atI ds i = some z from hz)
      exact ix_tup value slice pins s σ H _ _ v u Q I rx ry ⟨p, xs, i, w, rfl, hy.intV, g1, h1, fin_val hR h2 hQ⟩ hs
    | _ => cases hz
  | str l =>
    cases e with
    | int i =>
      simp only [dIdx] at hz
      by_cases hl : lineOk l.length = true
      · rw [if_pos hl] at hz
        cases q : Gw.atI l i with
        | none => rw [q] at hz; cases hz
        | some c =>
          rw [q] at hz
          cases hz
          refine ix_str value slice pins s σ H _ _ v u Q I rx ry ⟨mkS l, i, c, hx.strV, hy.intV, by rw [mkS_len]; exact lineOk_iff hl, q, ?_⟩ hs
          exact fin_val hR (.str [c]) hQ
      · rw [if_neg hl] at hz; cases hz
    | _ => cases hz
  | dct kvs =>
    have hz : (kyOf e).bind (lookK kvs) = some z := by cases e <;> exact hz
    cases ek : kyOf e with
    | none => rw [ek] at hz; cases hz
    | some y0 =>
      rw [ek] at hz
      have hz : lookK kvs y0 = some z := hz
      obtain ⟨kk, g1, g2⟩ := kyOf_kK ek
      obtain ⟨p, xs, e1, g3, g4⟩ := hx.dctV
      subst e1
      have ex := g2 (hy.flatR (kyOf_flat ek))
      subst ex
      rcases g4.look g1 with ⟨q1, q2⟩ | ⟨d', v', q1, q2, q3⟩
      · rw [q1] at hz; cases hz
      · rw [q1] at hz; cases hz
        refine ix_dctK (by omega) value slice pins s σ H _ _ v u Q I rx ry ⟨p, v', rfl, ?_, fin_val hR q3 hQ⟩ hs
        rw [← q2]; exact DGet.k g3
  | _ => cases hz
def cutD (K : PySem.W.Frag) : V → Option Int → Option Int → Hp → VK → Prop := fun x lo hi H Q => ∃ (B : Bs) (ss : List Sl) (vs : List (Option V)) (d : D) (r : Rv),
  R K B ss vs H ∧ Ra K (Mt B.Z ss vs) H x d ∧ dCut d lo hi = some r ∧ ∀ u H', R K B (ss ++ [r.sl]) (vs ++ [some u]) H' → Q u H'
theorem cutS_mkS (l : List Nat) (lo hi : Option Int) : cutS (mkS l) lo hi = mkS (cut l lo hi) := by
  unfold cutS Gw.cut
  rw [mkS_len, sIx_eq, sIx_eq]; rfl
theorem sld : SlR X (cutD X.K) := by
  intro pins s σ H x v vl vu lo hi sl Q I rx hs pl pu ⟨B, ss, vs, d, r, hR, hx, hg, hQ⟩
  cases d with
  | lst ds =>
    cases hg
    obtain ⟨p, xs, rfl, g1, g2, g3⟩ := hx.lstV
    exact sl_list pins s σ H _ v vl vu lo hi sl Q I rx hs pl pu ⟨p, xs, rfl, .inl (.inl g1), fin_lst hR (g3.cut lo hi) hQ⟩
  | str l =>
    simp only [dCut] at hg
    by_cases hl : lineOk l.length = true
    · rw [if_pos hl] at hg
      cases hg
      refine sl_str pins s σ H _ v vl vu lo hi sl Q I rx hs pl pu ⟨mkS l, hx.strV, by rw [mkS_len]; exact lineOk_iff hl, ?_⟩
      rw [cutS_mkS]
      exact fin_val hR (.str _) hQ
    · rw [if_neg hl] at hg; cases hg
  | tup ds =>
    cases hg
    have hx' := hx.tupR
    obtain ⟨p, xs, rfl, g1, g3⟩ := hx.tupV
    refine sl_tupA pins s σ H _ v vl vu lo hi sl Q I rx hs pl pu ⟨p, xs, rfl, g1, fun hw => ?_, fun _ => fin_tup hR (g3.cut lo hi) hQ⟩
    have e : cut ds lo hi = ds := by
      unfold Gw.cut
      rw [sIx_eq, sIx_eq, g3.len] at hw
      rw [hw.1, hw.2]
      simp
    rw [e] at hQ
    exact fin_val hR hx' hQ
  | scr ns =>
    cases hg
    obtain ⟨p, rfl, g1⟩ := hx.scrV
    exact sl_list pins s σ H _ v vl vu lo hi sl Q I rx hs pl pu ⟨p, _, rfl, g1, fin_lst hR ((RpA.ints ns).cut lo hi) hQ⟩
  | _ => cases hg
end
end Gw

set_option Elab.async false
set_option linter.all false
set_option maxRecDepth 100000
set_option maxHeartbeats 1000000
/-! sum of a tuple of ints -/
namespace Gw
open PySem PySem.Spec PyProof.Rows L2
section
variable {prog : Program} {w : World} {A : Around} {E : Value → Shared → Prop} {s : Shared} {l : Addr} {its : List Value} {ns : List Int} {Q : Value → Shared → Prop}
theorem sum_tupT (hh : A.handled = none) (hl : s.heap.IsTuple l its.toArray) (hi : IntsAre its ns)
    (h : ∀ h' tk t', (∀ b o, s.heap.get? b = some o → h'.get? b = some o) → Q (.int ns.sum t') { s with heap := h', toks := tk }) : wpAny (model prog w) A (call (.builtin "sum") [.ref l]) Q E s := by
  obtain ⟨xs, e⟩ := hi.allInts.items
  have hn : numsOf (intItems xs).toList = ns := by rw [← e]; exact hi.numsOf
  rw [nums_intItems] at hn
  rw [e] at hl
  have hlt : l < s.heap.objs.size := by obtain ⟨_, e, _⟩ := hl; exact Heap.lt_size e
  refine call_sum_walkG (wpAny_pyIter_tuple hl ?_)
  refine ⟨s.heap.objs.size, _, _, _, _, _, numAt xs, rfl, Walks.tuple (A := A.in1) hh _ l (Nat.ne_of_lt hlt) (intItems xs), ⟨⟨_, Heap.get?_push_size _ rfl, rfl, rfl⟩, hl.push _⟩, (fun b hb => ?_), (fun _ _ => intItems_at), fun h' tk t' hk => ?_⟩
  · show b < (s.heap.push _).objs.size
    rw [Heap.size_push]
    rcases List.mem_cons.mp hb with rfl | hb
    · exact Nat.lt_succ_self _
    · rcases List.mem_cons.mp hb with rfl | hb
      · exact Nat.lt_succ_of_lt hlt
      · cases hb
  · have := h h' tk t' (fun b o e => hk b o (fun m => by
      have hb : b = s.heap.objs.size := by simpa using m
      exact absurd (hb ▸ Heap.lt_size e) (Nat.lt_irrefl _)) (Heap.get?_push_of_some _ e))
    have e2 : preSum (numAt xs) xs.size = ns.sum := by rw [preSum_eq, List.take_of_length_le (by simp), hn]
    rw [show (intItems xs).size = xs.size by simp [intItems], e2]
    exact this
end
end Gw

set_option Elab.async false
set_option linter.all false
set_option maxRecDepth 100000
set_option maxHeartbeats 1000000
/-! The value layer, part 6: built-in functions on values. -/
namespace Gw
open PySem L2

/-! ### sorting -/
section
variable {α : Type} {le : α → α → Bool}
def insG (f : α → α → Bool) (x : α) : List α → List α
  | [] => [x]
  | y :: r => if f y x then y :: insG f x r else x :: y :: r
theorem insG_mem {f : α → α → Bool} {x z : α} : ∀ {l : List α}, z ∈ insG f x l ↔ z = x ∨ z ∈ l
  | [] => by simp [insG]
  | y :: r => by
    unfold insG
    split
    · rw [List.mem_cons, insG_mem, List.mem_cons]
      constructor
      · rintro (h | h | h)
        · exact .inr (.inl h)
        · exact .inl h
        · exact .inr (.inr h)
      · rintro (h | h | h)
        · exact .inr (.inl h)
        · exact .inl h
        · exact .inr (.inr h)
    · rw [List.mem_cons]
theorem isort_mem {f : α → α → Bool} {z : α} : ∀ {l : List α}, z ∈ l.foldr (insG f) [] ↔ z ∈ l
  | [] => by simp
  | x :: r => by rw [List.foldr_cons, insG_mem, isort_mem, List.mem_cons]
theorem ins_ok (h : PySem.W.TotalLe le) {f : α → α → Bool} {x : α} : ∀ {l : List α}, (∀ y ∈ l, le x y = !f y x) → l.Pairwise (fun a b => le a b = true) →
    (insG f x l).Pairwise (fun a b => le a b = true) ∧ ∀ c, (insG f x l).filter (PySem.W.sameRank le c) = (x :: l).filter (PySem.W.sameRank le c)
  | [], _, _ => by simp [insG]
  | y :: r, hf, hp => by
    rw [List.pairwise_cons] at hp
    have hy := hf y List.mem_cons_self
    unfold insG
    cases e : f y x with
    | false =>
      rw [e] at hy
      have hxy : le x y = true := by rw [hy]; rfl
      simp only [Bool.false_eq_true, if_false]
      refine ⟨?_, fun c => trivial⟩
      rw [List.pairwise_cons, List.pairwise_cons]
      refine ⟨fun z hz => ?_, hp⟩
      rcases List.mem_cons.mp hz with rfl | hz
      · exact hxy
      · exact h.trans _ _ _ hxy (hp.1 z hz)
    | true =>
      rw [e] at hy
      have hxy : le x y = false := by rw [hy]; rfl
      have hyx : le y x = true := (h.total x y).elim (fun z => by rw [hxy] at z; cases z) fun z => z
      simp only [if_true]
      obtain ⟨h1, h2⟩ := ins_ok h (fun z hz => hf z (List.mem_cons_of_mem _ hz)) hp.2
      refine ⟨?_, fun c => ?_⟩
      · rw [List.pairwise_cons]
        refine ⟨fun z hz => ?_, h1⟩
        rcases insG_mem.mp hz with rfl | hz
        · exact hyx
        · exact hp.1 z hz
      · rw [List.filter_cons, h2 c]
        by_cases hc : PySem.W.sameRank le c y = true
        · rw [if_pos hc]
          have hx : PySem.W.sameRank le c x = false := by
            unfold PySem.W.sameRank at hc ⊢
            rw [Bool.and_eq_true] at hc
            cases hcx : le x c with
            | false => simp
            | true =>
              have := h.trans _ _ _ hcx hc.1
              rw [hxy] at this; cases this
          rw [List.filter_cons, hx, List.filter_cons, hx, List.filter_cons, if_pos hc]
          simp
        · rw [if_neg hc, List.filter_cons, List.filter_cons, List.filter_cons, if_neg hc]
theorem isort_ok (h : PySem.W.TotalLe le) {f : α → α → Bool} : ∀ {l : List α}, (∀ a ∈ l, ∀ b ∈ l, le a b = !f b a) →
    (l.foldr (insG f) []).Pairwise (fun a b => le a b = true) ∧ ∀ c, (l.foldr (insG f) []).filter (PySem.W.sameRank le c) = l.filter (PySem.W.sameRank le c)
  | [], _ => by simp
  | x :: r, hf => by
    obtain ⟨h1, h2⟩ := isort_ok h (l := r) fun a ha b hb => hf a (List.mem_cons_of_mem _ ha) b (List.mem_cons_of_mem _ hb)
    obtain ⟨h3, h4⟩ := ins_ok h (x := x) (f := f) (l := r.foldr (insG f) []) (fun y hy => hf x List.mem_cons_self y (List.mem_cons_of_mem _ (isort_mem.mp hy))) h1
    rw [List.foldr_cons]
    refine ⟨h3, fun c => ?_⟩
    rw [h4 c, List.filter_cons, h2 c, List.filter_cons]
theorem isort_eq (h : PySem.W.TotalLe le) {f : α → α → Bool} {l : List α} (hf : ∀ a ∈ l, ∀ b ∈ l, le a b = !f b a) : l.foldr (insG f) [] = l.mergeSort le :=
  let ⟨h1, h2⟩ := isort_ok h hf
  PySem.W.sort_unique h h1 h2
end
theorem insD_eq (x : D) : ∀ l : List D, insD x l = insG D.ltb x l
  | [] => rfl
  | y :: r => by unfold insD insG; rw [insD_eq x r]
theorem sortD_eq : ∀ l : List D, sortD l = l.foldr (insG D.ltb) []
  | [] => rfl
  | x :: r => by
    show insD x (sortD r) = insG D.ltb x (r.foldr (insG D.ltb) [])
    rw [insD_eq, sortD_eq r]
theorem dataLe_total : PySem.W.TotalLe (PySem.W.dataLe false toP) := PySem.W.sortLe_total _ _ _
theorem sortD_merge {ds : List D} (ha : ∀ a ∈ ds, ∀ b ∈ ds, D.alike a b = true) : sortD ds = ds.mergeSort (PySem.W.dataLe false toP) := by
  rw [sortD_eq]
  refine isort_eq dataLe_total fun a h1 b h2 => ?_
  rw [PySem.W.dataLe_eq]
  show (!PySem.W.dataLt (toP b) (toP a)) = _
  rw [ltb_toP b a (ha b h2 a h1)]
theorem sortD_mem {x : D} {ds : List D} : x ∈ sortD ds ↔ x ∈ ds := by rw [sortD_eq]; exact isort_mem
theorem sortable_iff {ds : List D} (h : sortable ds = true) : D.nodcts ds = true ∧ D.depths ds ≤ 60 ∧ (∀ a ∈ ds, ∀ b ∈ ds, D.alike a b = true) ∧ ((∀ a ∈ ds, a.isTup = true) ∨ ∀ a ∈ ds, a.noTup = true) := by
  unfold sortable at h
  simp only [Bool.and_eq_true, Bool.or_eq_true, decide_eq_true_eq, List.all_eq_true] at h
  exact ⟨h.1.1.1, h.1.1.2, h.1.2, h.2⟩
theorem nodct_mem : ∀ {ds : List D}, D.nodcts ds = true → ∀ d ∈ ds, d.nodct = true
  | [], _, _, h => by cases h
  | a :: as, p, d, h => by
    simp only [D.nodcts, Bool.and_eq_true] at p
    rcases List.mem_cons.mp h with rfl | h
    · exact p.1
    · exact nodct_mem p.2 d h
theorem depth_mem : ∀ {ds : List D} {n : Nat}, D.depths ds ≤ n → ∀ d ∈ ds, d.depth ≤ n
  | [], _, _, _, h => by cases h
  | a :: as, n, p, d, h => by
    simp only [D.depths] at p
    rcases List.mem_cons.mp h with rfl | h
    · omega
    · exact depth_mem (n := n) (by omega) d h
section
variable {X : Cx} {K : PySem.W.Frag} {M : Addr → Prop} {H : Hp}
theorem rpA_each : ∀ {vs : List V} {ds : List D} {us : List Value}, RpA K M H vs ds → Vals vs us → PySem.W.EachIs (fun u d => ∃ x, RelV x u ∧ Rp K M H x d) us ds
  | _, _, _, .nil, .nil => .nil
  | _, _, _, .cons h t, .cons r s => .cons ⟨_, r, h⟩ (rpA_each t s)
theorem each_rpA : ∀ {ds : List D} {us : List Value}, PySem.W.EachIs (fun u d => ∃ x, RelV x u ∧ Rp K M H x d) us ds → ∃ vs, RpA K M H vs ds ∧ Vals vs us
  | _, _, .nil => ⟨[], .nil, .nil⟩
  | _, _, .cons ⟨x, r, h⟩ t => by
    obtain ⟨vs, h1, h2⟩ := each_rpA t
    exact ⟨x :: vs, .cons h h1, .cons r h2⟩
theorem each_memD {us : List Value} {ds : List D} {Rr : Value → D → Prop} : PySem.W.EachIs Rr us ds → PySem.W.EachIs (fun u d => Rr u d ∧ d ∈ ds) us ds := fun h => by
  induction h with
  | nil => exact .nil
  | cons h t ih => exact .cons ⟨h, List.mem_cons_self⟩ (ih.mono fun _ _ q => ⟨q.1, List.mem_cons_of_mem _ q.2⟩)
theorem toPs_map : ∀ ds : List D, toPs ds = ds.map toP
  | [] => rfl
  | d :: ds => by rw [toPs, List.map_cons, toPs_map ds]
theorem sortable_toP {ds : List D} (h : sortable ds = true) : PySem.W.AllAlike (ds.map toP) ∧ PySem.W.Sortable (ds.map toP) := by
  obtain ⟨h1, h2, h3, h4⟩ := sortable_iff h
  refine ⟨fun d hd e he => ?_, ?_⟩
  · obtain ⟨a, ha, rfl⟩ := List.mem_map.mp hd
    obtain ⟨b, hb, rfl⟩ := List.mem_map.mp he
    exact alike_toP a b (h3 a ha b hb)
  · rcases h4 with h4 | h4
    · refine .inl fun d hd => ?_
      obtain ⟨a, ha, rfl⟩ := List.mem_map.mp hd
      have := h4 a ha
      cases a with
      | tup l =>
        cases l with
        | nil => simp [D.isTup] at this
        | cons x r => exact ⟨toP x, toPs r, by simp [toP, toPs]⟩
      | _ => simp [D.isTup] at this
    · refine .inr fun d hd => ?_
      obtain ⟨a, ha, rfl⟩ := List.mem_map.mp hd
      have := h4 a ha
      cases a <;> first | (simp [D.noTup] at this; done) | simp [toP]
theorem cad_sorted (hu : X.A.units + 65 < cLine) : CallR X (.builtin "sorted") (arD X.K (dBi .sorted)) := by
  intro pins s σ H xs us Q I rx ⟨B, ss, vs, ds, r, hR, hx, hg, hQ⟩
  cases hx with
  | nil => cases hg
  | cons h1 h2 =>
    cases h2 with
    | cons _ _ => rename_i d1 _ _ _ _ _ _; cases d1 <;> cases hg
    | nil =>
      rename_i d
      cases d with
      | lst l =>
        simp only [dBi] at hg
        by_cases hs : sortable l = true
        · simp only [dSorted, hs, if_true, Option.map_some] at hg
          cases hg
          obtain ⟨p, ys, rfl, g1, g2, g3⟩ := h1.lstV
          obtain ⟨its, rv, hl, hz⟩ := I.list (.inl (.inl g1))
          rw [Vals.ref1 rx]
          obtain ⟨k1, k2, k3, k4⟩ := sortable_iff hs
          obtain ⟨k5, k6⟩ := sortable_toP hs
          have e1 := rpA_each g3 rv
          have e2 : PySem.W.EachIs (fun v b => ∃ as, Reads s.heap v (toP b) as) its l := (each_memD e1).mono fun u d ⟨⟨x, h1, h2⟩, h3⟩ => Dp.rd I (nodct_mem k1 d h3) (.rp h2) h1
          refine PySem.W.sorted_data (R := fun u d => ∃ x, RelV x u ∧ Rp X.K (Mt B.Z ss vs) H x d) (enc := toP) hl.isList e1 e2 k5 k6 (by rw [← g3.len]; exact hz) (fun b hb => ?_) fun out ho he => ?_
          · rw [depth_toP b (nodct_mem k1 b hb)]
            have := depth_mem k2 b hb
            omega
          · rw [← sortD_merge k3] at he
            obtain ⟨zs, h3, h4⟩ := each_rpA he
            obtain ⟨ep, he'⟩ := PyProof.Rows.sortedAll_at s.heap its out.toArray
            have hlen : zs.length ≤ sizeLine := by rw [h4.length, ho, ← g3.len]; exact hz
            exact ⟨.ref _, upd H (s.heap.objs.size + 1) (.lst zs), I.laid (t' := s.toks) (fun _ _ => PyProof.Rows.sortedAll_old) (Nat.le_succ _) ⟨hlen, out, ep, h4, he'⟩, rfl, fin_lst hR h3 hQ _ (I.hok.fresh (Nat.le_succ _))⟩
        · simp only [dSorted, hs] at hg; cases hg
      | _ => cases hg
theorem rpA1 {xs : List V} {d : D} (h : RaA K M H xs [d]) : ∃ x, xs = [x] ∧ Ra K M H x d := by
  cases h with | cons h t => cases t; exact ⟨_, rfl, h⟩
theorem rpA2 {xs : List V} {d e : D} (h : RaA K M H xs [d, e]) : ∃ x y, xs = [x, y] ∧ Ra K M H x d ∧ Ra K M H y e := by
  cases h with | cons h t => cases t with | cons h' t => cases t; exact ⟨_, _, rfl, h, h'⟩
theorem one_of_len {ds : List D} {r : Rv} (h : dBi .len ds = some r) : ∃ d, ds = [d] := by
  cases ds with
  | nil => cases h
  | cons d t => cases t with
    | nil => exact ⟨d, rfl⟩
    | cons _ _ => cases d <;> cases h
theorem cad_len : CallR X (.builtin "len") (arD X.K (dBi .len)) := by
  intro pins s σ H xs us Q I rx ⟨B, ss, vs, ds, r, hR, hx, hg, hQ⟩
  obtain ⟨d, rfl⟩ := one_of_len hg
  obtain ⟨x, rfl, h1⟩ := rpA1 hx
  cases d with
  | str l =>
    simp only [dBi] at hg
    by_cases hz : lineOk l.length = true
    · rw [if_pos hz] at hg
      cases hg
      rw [h1.strV] at rx
      refine call_len_str pins s σ H _ us Q I rx ⟨mkS l, rfl, by rw [mkS_len]; exact lineOk_iff hz, ?_⟩
      rw [mkS_len]
      exact fin_val hR (.int _) hQ
    · rw [if_neg hz] at hg; cases hg
  | lst l =>
    cases hg
    obtain ⟨p, ys, rfl, g1, g2, g3⟩ := h1.lstV
    refine call_len_seq pins s σ H _ us Q I rx ⟨p, ys, rfl, .inl (.inl (.inl g1)), ?_⟩
    rw [g3.len]
    exact fin_val hR (.int _) hQ
  | tup l =>
    cases hg
    obtain ⟨p, ys, rfl, g1, g3⟩ := h1.tupV
    refine call_len_seq pins s σ H _ us Q I rx ⟨p, ys, rfl, .inr g1, ?_⟩
    rw [g3.len]
    exact fin_val hR (.int _) hQ
  | dct l =>
    cases hg
    obtain ⟨p, ys, rfl, g1, g3⟩ := h1.dctV
    refine call_lenD pins s σ H _ us Q I rx ⟨p, ys, rfl, g1, ?_⟩
    rw [g3.len]
    exact fin_val hR (.int _) hQ
  | _ => cases hg
theorem cad_abs : CallR X (.builtin "abs") (arD X.K (dBi .abs)) := by
  intro pins s σ H xs us Q I rx ⟨B, ss, vs, ds, r, hR, hx, hg, hQ⟩
  match ds, hg, hx with
  | [.int i], hg, hx =>
    cases hg
    obtain ⟨x, rfl, h1⟩ := rpA1 hx
    rw [h1.intV] at rx
    exact call_abs pins s σ H _ us Q I rx ⟨i, rfl, fin_val hR (.int _) hQ⟩
theorem cad_int : CallR X (.type "int") (arD X.K (dBi .int)) := by
  intro pins s σ H xs us Q I rx ⟨B, ss, vs, ds, r, hR, hx, hg, hQ⟩
  match ds, hg, hx with
  | [.int i], hg, hx =>
    cases hg
    obtain ⟨x, rfl, h1⟩ := rpA1 hx
    rw [h1.intV] at rx
    exact call_int1 pins s σ H _ us Q I rx (.inl ⟨i, rfl, fin_val hR (.int _) hQ⟩)
  | [.bl i], hg, hx =>
    cases hg
    obtain ⟨x, rfl, h1⟩ := rpA1 hx
    rw [h1.blV] at rx
    exact call_int1 pins s σ H _ us Q I rx (.inr ⟨i, rfl, fin_val hR (.int _) hQ⟩)
theorem cad_tuple : CallR X (.type "tuple") (arD X.K (dBi .tuple)) := by
  intro pins s σ H xs us Q I rx ⟨B, ss, vs, ds, r, hR, hx, hg, hQ⟩
  match ds, hg, hx with
  | [.lst l], hg, hx =>
    cases hg
    obtain ⟨x, rfl, h1⟩ := rpA1 hx
    obtain ⟨p, ys, rfl, g1, g2, g3⟩ := h1.lstV
    exact call_tuple_of pins s σ H _ us Q I rx ⟨p, ys, rfl, .inl ⟨.inl (.inl g1), fin_tup hR g3 hQ⟩⟩
  | [.tup l], hg, hx =>
    cases hg
    obtain ⟨x, rfl, h1⟩ := rpA1 hx
    have h1' := h1.tupR
    obtain ⟨p, ys, rfl, g1, g3⟩ := h1.tupV
    exact call_tuple_of pins s σ H _ us Q I rx ⟨p, ys, rfl, .inr ⟨g1, fin_val hR h1' hQ⟩⟩
theorem cad_list : CallR X (.type "list") (arD X.K (dBi .list)) := by
  intro pins s σ H xs us Q I rx ⟨B, ss, vs, ds, r, hR, hx, hg, hQ⟩
  match ds, hg, hx with
  | [.lst l], hg, hx =>
    cases hg
    obtain ⟨x, rfl, h1⟩ := rpA1 hx
    obtain ⟨p, ys, rfl, g1, g2, g3⟩ := h1.lstV
    exact call_list_of pins s σ H _ us Q I rx ⟨p, ys, rfl, .inl (.inl (.inl g1)), fin_lst hR g3 hQ⟩
  | [.tup l], hg, hx =>
    cases hg
    obtain ⟨x, rfl, h1⟩ := rpA1 hx
    obtain ⟨p, ys, rfl, g1, g3⟩ := h1.tupV
    exact call_list_of pins s σ H _ us Q I rx ⟨p, ys, rfl, .inr g1, fin_lst hR g3 hQ⟩
theorem ints_of : ∀ {ds : List D} {xs : List V} {ns : List Int}, dInts ds = some ns → RpA K M H xs ds → xs = ns.map V.int
  | [], _, ns, h, .nil => by cases h; rfl
  | .int i :: ds, _, ns, h, .cons h1 h2 => by
    simp only [dInts] at h
    cases q : dInts ds with
    | none => rw [q] at h; cases h
    | some ms =>
      rw [q] at h
      cases h
      rw [h1.intV, ints_of q h2]; rfl
  | .non :: _, _, _, h, _ => by cases h
  | .bl _ :: _, _, _, h, _ => by cases h
  | .str _ :: _, _, _, h, _ => by cases h
  | .lst _ :: _, _, _, h, _ => by cases h
  | .tup _ :: _, _, _, h, _ => by cases h
  | .dct _ :: _, _, _, h, _ => by cases h
theorem minL_is : ∀ (ns : List Int) (n : Int), (minL n ns = n ∨ minL n ns ∈ ns) ∧ minL n ns ≤ n ∧ ∀ y ∈ ns, minL n ns ≤ y
  | [], n => ⟨.inl rfl, Int.le_refl _, fun y h => by cases h⟩
  | a :: ns, n => by
    have e : minL n (a :: ns) = minL (if a < n then a else n) ns := rfl
    obtain ⟨h1, h2, h3⟩ := minL_is ns (if a < n then a else n)
    rw [e]
    refine ⟨?_, ?_, fun y hy => ?_⟩
    · rcases h1 with h1 | h1
      · by_cases c : a < n
        · rw [if_pos c] at h1 ⊢; exact .inr (by rw [h1]; exact List.mem_cons_self)
        · rw [if_neg c] at h1 ⊢; exact .inl h1
      · exact .inr (List.mem_cons_of_mem _ h1)
    · by_cases c : a < n
      · rw [if_pos c] at h2 ⊢; omega
      · rw [if_neg c] at h2 ⊢; exact h2
    · rcases List.mem_cons.mp hy with z | z
      · subst z
        by_cases c : y < n
        · rw [if_pos c] at h2 ⊢; exact h2
        · rw [if_neg c] at h2 ⊢; omega
      · exact h3 y z
theorem maxL_is : ∀ (ns : List Int) (n : Int), (maxL n ns = n ∨ maxL n ns ∈ ns) ∧ n ≤ maxL n ns ∧ ∀ y ∈ ns, y ≤ maxL n ns
  | [], n => ⟨.inl rfl, Int.le_refl _, fun y h => by cases h⟩
  | a :: ns, n => by
    have e : maxL n (a :: ns) = maxL (if n < a then a else n) ns := rfl
    obtain ⟨h1, h2, h3⟩ := maxL_is ns (if n < a then a else n)
    rw [e]
    refine ⟨?_, ?_, fun y hy => ?_⟩
    · rcases h1 with h1 | h1
      · by_cases c : n < a
        · rw [if_pos c] at h1 ⊢; exact .inr (by rw [h1]; exact List.mem_cons_self)
        · rw [if_neg c] at h1 ⊢; exact .inl h1
      · exact .inr (List.mem_cons_of_mem _ h1)
    · by_cases c : n < a
      · rw [if_pos c] at h2 ⊢; omega
      · rw [if_neg c] at h2 ⊢; exact h2
    · rcases List.mem_cons.mp hy with z | z
      · subst z
        by_cases c : n < y
        · rw [if_pos c] at h2 ⊢; exact h2
        · rw [if_neg c] at h2 ⊢; omega
      · exact h3 y z
theorem cad_min2 (hc : X.calm = true) : CallR X (.builtin "min") (arD X.K (dBi .min2)) := by
  intro pins s σ H xs us Q I rx ⟨B, ss, vs, ds, r, hR, hx, hg, hQ⟩
  match ds, hg, hx with
  | [.int i, .int j], hg, hx =>
    cases hg
    obtain ⟨x, y, rfl, h1, h2⟩ := rpA2 hx
    rw [h1.intV, h2.intV] at rx
    exact call_min2 hc pins s σ H _ us Q I rx ⟨i, j, rfl, fin_val hR (.int _) hQ⟩
  | [.lst l], hg, hx =>
    simp only [dBi] at hg
    cases q : dInts l with
    | none => rw [q] at hg; cases hg
    | some ns =>
      cases ns with
      | nil => rw [q] at hg; cases hg
      | cons n ns =>
        rw [q] at hg
        cases hg
        obtain ⟨x, rfl, h1⟩ := rpA1 hx
        obtain ⟨p, ys, rfl, g1, g2, g3⟩ := h1.lstV
        have e := ints_of q g3
        subst e
        refine cr_min hc pins s σ H _ us Q I rx ⟨p, n :: ns, rfl, .inl (.inl g1), by simp, fun m hm hy => ?_⟩
        obtain ⟨k1, k2, k3⟩ := minL_is ns n
        have e : m = minL n ns := by
          have a1 : m ≤ minL n ns := hy _ (k1.elim (fun z => by rw [z]; exact List.mem_cons_self) fun z => List.mem_cons_of_mem _ z)
          have a2 : minL n ns ≤ m := (List.mem_cons.mp hm).elim (fun z => by rw [z]; exact k2) fun z => k3 m z
          omega
        rw [e]
        exact fin_val hR (.int _) hQ
theorem cad_max2 (hc : X.calm = true) : CallR X (.builtin "max") (arD X.K (dBi .max2)) := by
  intro pins s σ H xs us Q I rx ⟨B, ss, vs, ds, r, hR, hx, hg, hQ⟩
  match ds, hg, hx with
  | [.int i, .int j], hg, hx =>
    cases hg
    obtain ⟨x, y, rfl, h1, h2⟩ := rpA2 hx
    rw [h1.intV, h2.intV] at rx
    exact call_max2 hc pins s σ H _ us Q I rx ⟨i, j, rfl, fin_val hR (.int _) hQ⟩
  | [.lst l], hg, hx =>
    simp only [dBi] at hg
    cases q : dInts l with
    | none => rw [q] at hg; cases hg
    | some ns =>
      cases ns with
      | nil => rw [q] at hg; cases hg
      | cons n ns =>
        rw [q] at hg
        cases hg
        obtain ⟨x, rfl, h1⟩ := rpA1 hx
        obtain ⟨p, ys, rfl, g1, g2, g3⟩ := h1.lstV
        have e := ints_of q g3
        subst e
        refine cr_max hc pins s σ H _ us Q I rx ⟨p, n :: ns, rfl, .inl (.inl g1), by simp, fun m hm hy => ?_⟩
        obtain ⟨k1, k2, k3⟩ := maxL_is ns n
        have e : m = maxL n ns := by
          have a1 : maxL n ns ≤ m := hy _ (k1.elim (fun z => by rw [z]; exact List.mem_cons_self) fun z => List.mem_cons_of_mem _ z)
          have a2 : m ≤ maxL n ns := (List.mem_cons.mp hm).elim (fun z => by rw [z]; exact k2) fun z => k3 m z
          omega
        rw [e]
        exact fin_val hR (.int _) hQ
theorem cad_sum (hc : X.calm = true) : CallR X (.builtin "sum") (arD X.K (dBi .sum)) := by
  intro pins s σ H xs us Q I rx ⟨B, ss, vs, ds, r, hR, hx, hg, hQ⟩
  match ds, hg, hx with
  | [.lst l], hg, hx =>
    simp only [dBi] at hg
    cases q : dInts l with
    | none => rw [q] at hg; cases hg
    | some ns =>
      rw [q] at hg
      cases hg
      obtain ⟨x, rfl, h1⟩ := rpA1 hx
      obtain ⟨p, ys, rfl, g1, g2, g3⟩ := h1.lstV
      have e := ints_of q g3
      subst e
      exact cr_sum hc pins s σ H _ us Q I rx ⟨p, ns, rfl, .inl (.inl g1), fin_val hR (.int _) hQ⟩
  | [.tup l], hg, hx =>
    simp only [dBi] at hg
    cases q : dInts l with
    | none => rw [q] at hg; cases hg
    | some ns =>
      rw [q] at hg
      cases hg
      obtain ⟨x, rfl, h1⟩ := rpA1 hx
      obtain ⟨p, ys, rfl, g1, g3⟩ := h1.tupV
      have e := ints_of q g3
      subst e
      obtain ⟨its, rv, hl, _⟩ := I.tuple g1
      rw [Vals.ref1 rx]
      exact sum_tupT (I.ok.hd hc) hl rv.ints fun h' tk t' hk => ⟨.int _, H, I.kept hk, ⟨_, rfl⟩, fin_val hR (.int _) hQ⟩
def biV : Bi → Value
  | .len => .builtin "len" | .abs => .builtin "abs" | .int => .type "int" | .min2 => .builtin "min" | .max2 => .builtin "max" | .tuple => .type "tuple" | .list => .type "list" | .sorted => .builtin "sorted" | .sum => .builtin "sum" | .join => .none
def biN : Bi → String
  | .len => "len" | .abs => "abs" | .int => "int" | .min2 => "min" | .max2 => "max" | .tuple => "tuple" | .list => "list" | .sorted => "sorted" | .sum => "sum" | .join => ""
theorem cad (hu : X.A.units + 65 < cLine) (hc : X.calm = true) : ∀ b : Bi, b ≠ .join → CallR X (biV b) (arD X.K (dBi b))
  | .len, _ => cad_len | .abs, _ => cad_abs | .int, _ => cad_int | .min2, _ => cad_min2 hc | .max2, _ => cad_max2 hc | .tuple, _ => cad_tuple | .list, _ => cad_list | .sorted, _ => cad_sorted hu | .sum, _ => cad_sum hc | .join, h => (h rfl).elim
theorem biB : ∀ b : Bi, b ≠ .join → bootBuiltins (biN b) = some (biV b)
  | .len, _ => by decide +kernel | .abs, _ => by decide +kernel | .int, _ => by decide +kernel | .min2, _ => by decide +kernel | .max2, _ => by decide +kernel | .tuple, _ => by decide +kernel | .list, _ => by decide +kernel | .sorted, _ => by decide +kernel | .sum, _ => by decide +kernel | .join, h => (h rfl).elim
end
end Gw

set_option Elab.async false
set_option linter.all false
set_option maxRecDepth 100000
set_option maxHeartbeats 1000000
/-! The value layer, part 7: does the small syntax tell a program's text. -/
namespace Gw
open PySem L2

/-! ### shapes of the text -/
def asName : Expr → Option Str
  | .Name x _ => some x
  | _ => none
theorem asName_some {e : Expr} {x : Str} (h : asName e = some x) : ∃ p, e = .Name x p := by
  cases e <;> simp [asName] at h
  subst h; exact ⟨_, rfl⟩
def asConst : Expr → Option Const
  | .Constant c _ _ => some c
  | _ => none
theorem asConst_some {e : Expr} {x : Const} (h : asConst e = some x) : ∃ k p, e = .Constant x k p := by
  cases e <;> simp [asConst] at h
  subst h; exact ⟨_, _, rfl⟩
def asBin : Expr → Option (Expr × Operator × Expr)
  | .BinOp l o r _ => some (l, o, r)
  | _ => none
theorem asBin_some {e l r : Expr} {o : Operator} (h : asBin e = some (l, o, r)) : ∃ p, e = .BinOp l o r p := by
  cases e <;> simp [asBin] at h
  obtain ⟨rfl, rfl, rfl⟩ := h; exact ⟨_, rfl⟩
def asUn : Expr → Option (UnaryOp × Expr)
  | .UnaryOp o r _ => some (o, r)
  | _ => none
theorem asUn_some {e r : Expr} {o : UnaryOp} (h : asUn e = some (o, r)) : ∃ p, e = .UnaryOp o r p := by
  cases e <;> simp [asUn] at h
  obtain ⟨rfl, rfl⟩ := h; exact ⟨_, rfl⟩
def asCmp : Expr → Option (Expr × List CmpOp × List Expr)
  | .Compare l os rs _ => some (l, os, rs)
  | _ => none
theorem asCmp_some {e l : Expr} {os : List CmpOp} {rs : List Expr} (h : asCmp e = some (l, os, rs)) : ∃ p, e = .Compare l os rs p := by
  cases e <;> simp [asCmp] at h
  obtain ⟨rfl, rfl, rfl⟩ := h; exact ⟨_, rfl⟩
def peel : Expr → Expr
  | .BoolOp _ [x] _ => x
  | e => e
def asBool : Expr → Option (BoolOp × Expr × Expr)
  | .BoolOp op (x :: y :: rest) pos => some (op, x, .BoolOp op (y :: rest) pos)
  | _ => none
theorem asBool_some {e x z : Expr} {op : BoolOp} (h : asBool e = some (op, x, z)) : ∃ y rest p, e = .BoolOp op (x :: y :: rest) p ∧ z = .BoolOp op (y :: rest) p := by
  cases e with
  | BoolOp o vs p =>
    cases vs with
    | nil => simp [asBool] at h
    | cons a t => cases t with
      | nil => simp [asBool] at h
      | cons b t =>
        simp [asBool] at h
        obtain ⟨rfl, rfl, rfl⟩ := h
        exact ⟨_, _, _, rfl, rfl⟩
  | _ => simp [asBool] at h
def asIf : Expr → Option (Expr × Expr × Expr)
  | .IfExp c a b _ => some (c, a, b)
  | _ => none
theorem asIf_some {e c a b : Expr} (h : asIf e = some (c, a, b)) : ∃ p, e = .IfExp c a b p := by
  cases e <;> simp [asIf] at h
  obtain ⟨rfl, rfl, rfl⟩ := h; exact ⟨_, rfl⟩
def asTup : Expr → Option (List Expr)
  | .Tuple es _ _ => some es
  | _ => none
theorem asTup_some {e : Expr} {es : List Expr} (h : asTup e = some es) : ∃ k p, e = .Tuple es k p := by
  cases e <;> simp [asTup] at h
  subst h; exact ⟨_, _, rfl⟩
def asLst : Expr → Option (List Expr)
  | .List es _ => some es
  | _ => none
theorem asLst_some {e : Expr} {es : List Expr} (h : asLst e = some es) : ∃ p, e = .List es p := by
  cases e <;> simp [asLst] at h
  subst h; exact ⟨_, rfl⟩
def isSlice : Expr → Bool
  | .Slice _ _ _ _ => true
  | _ => false
def asSub : Expr → Option (Expr × Expr)
  | .Subscript a b _ => if isSlice b then none else some (a, b)
  | _ => none
theorem asSub_some {e a b : Expr} (h : asSub e = some (a, b)) : ∃ p, e = .Subscript a b p ∧ isSlice b = false := by
  cases e <;> simp [asSub] at h
  obtain ⟨h1, rfl, rfl⟩ := h
  exact ⟨_, rfl, h1⟩
def asSli : Expr → Option (Expr × Option Expr × Option Expr)
  | .Subscript a (.Slice lo hi none _) _ => some (a, lo, hi)
  | _ => none
theorem asSli_some {e a : Expr} {lo hi : Option Expr} (h : asSli e = some (a, lo, hi)) : ∃ p2 p, e = .Subscript a (.Slice lo hi none p2) p := by
  cases e with
  | Subscript a b p =>
    cases b with
    | Slice l u s p2 =>
      cases s with
      | none =>
        simp [asSli] at h
        obtain ⟨rfl, rfl, rfl⟩ := h
        exact ⟨_, _, rfl⟩
      | some _ => simp [asSli] at h
    | _ => simp [asSli] at h
  | _ => simp [asSli] at h
def asCall : Expr → Option (Str × List Expr)
  | .Call (.Name x _) args [] _ => some (x, args)
  | _ => none
theorem asCall_some {e : Expr} {x : Str} {es : List Expr} (h : asCall e = some (x, es)) : ∃ p pos, e = .Call (.Name x p) es [] pos := by
  cases e with
  | Call f args kws pos =>
    cases f with
    | Name y p =>
      cases kws with
      | nil =>
        simp [asCall] at h
        obtain ⟨rfl, rfl⟩ := h
        exact ⟨_, _, rfl⟩
      | cons _ _ => simp [asCall] at h
    | _ => simp [asCall] at h
  | _ => simp [asCall] at h
def isCallE : Expr → Bool
  | .Call _ _ _ _ => true
  | _ => false
/-- o.m(args) on one line, o not a call -/
def asMeth : Expr → Option (Expr × Str × List Expr)
  | .Call (.Attribute o m apos) args [] pos => if (apos.endLine == pos.line) && !isCallE o then some (o, m, args) else none
  | _ => none
theorem asMeth_some {e o : Expr} {m : Str} {es : List Expr} (h : asMeth e = some (o, m, es)) : ∃ apos pos, e = .Call (.Attribute o m apos) es [] pos ∧ (apos.endLine == pos.line) = true ∧ isCallE o = false := by
  cases e with
  | Call f args kws pos =>
    cases f with
    | Attribute o' m' apos =>
      cases kws with
      | nil =>
        simp only [asMeth] at h
        by_cases hc : ((apos.endLine == pos.line) && !isCallE o') = true
        · rw [if_pos hc] at h
          rw [Bool.and_eq_true] at hc
          simp only [Option.some.injEq, Prod.mk.injEq] at h
          obtain ⟨rfl, rfl, rfl⟩ := h
          exact ⟨_, _, rfl, hc.1, by simpa using hc.2⟩
        · rw [if_neg hc] at h; cases h
      | cons _ _ => simp [asMeth] at h
    | _ => simp [asMeth] at h
  | _ => simp [asMeth] at h
structure Comp1 where
  elt : Expr
  tg : Expr
  iter : Expr
  ifs : List Expr
  scope : Scope
def asLC : Expr → Option Comp1
  | .ListComp elt [⟨tg, iter, ifs, 0⟩] scope _ => some ⟨elt, tg, iter, ifs, scope⟩
  | _ => none
theorem asLC_some {e : Expr} {c : Comp1} (h : asLC e = some c) : ∃ pos, e = .ListComp c.elt [⟨c.tg, c.iter, c.ifs, 0⟩] c.scope pos := by
  cases e with
  | ListComp elt gs scope pos =>
    unfold asLC at h
    split at h
    · rename_i heq
      cases heq
      cases h
      exact ⟨_, rfl⟩
    · cases h
  | _ => simp [asLC] at h
structure Comp2 where
  elt : Expr
  tg : Expr
  iter : Expr
  ifs : List Expr
  tg' : Expr
  iter' : Expr
  ifs' : List Expr
  scope : Scope
def asLC2 : Expr → Option Comp2
  | .ListComp elt [⟨tg, iter, ifs, 0⟩, ⟨tg', iter', ifs', 0⟩] scope _ => some ⟨elt, tg, iter, ifs, tg', iter', ifs', scope⟩
  | _ => none
theorem asLC2_some {e : Expr} {c : Comp2} (h : asLC2 e = some c) : ∃ pos, e = .ListComp c.elt [⟨c.tg, c.iter, c.ifs, 0⟩, ⟨c.tg', c.iter', c.ifs', 0⟩] c.scope pos := by
  cases e with
  | ListComp elt gs scope pos =>
    unfold asLC2 at h
    split at h
    · rename_i heq
      cases heq
      cases h
      exact ⟨_, rfl⟩
    · cases h
  | _ => simp [asLC2] at h
def asGen : Expr → Option Comp1
  | .GeneratorExp elt [⟨tg, iter, ifs, 0⟩] scope _ => some ⟨elt, tg, iter, ifs, scope⟩
  | _ => none
theorem asGen_some {e : Expr} {c : Comp1} (h : asGen e = some c) : ∃ pos, e = .GeneratorExp c.elt [⟨c.tg, c.iter, c.ifs, 0⟩] c.scope pos := by
  cases e with
  | GeneratorExp elt gs scope pos =>
    unfold asGen at h
    split at h
    · rename_i heq
      cases heq
      cases h
      exact ⟨_, rfl⟩
    · cases h
  | _ => simp [asGen] at h
def asSC : Expr → Option Comp1
  | .SetComp elt [⟨tg, iter, ifs, 0⟩] scope _ => some ⟨elt, tg, iter, ifs, scope⟩
  | _ => none
theorem asSC_some {e : Expr} {c : Comp1} (h : asSC e = some c) : ∃ pos, e = .SetComp c.elt [⟨c.tg, c.iter, c.ifs, 0⟩] c.scope pos := by
  cases e with
  | SetComp elt gs scope pos =>
    unfold asSC at h
    split at h
    · rename_i heq
      cases heq
      cases h
      exact ⟨_, rfl⟩
    · cases h
  | _ => simp [asSC] at h
structure CompD where
  kx : Expr
  vx : Expr
  tg : Expr
  iter : Expr
  ifs : List Expr
  scope : Scope
def asDC : Expr → Option CompD
  | .DictComp kx vx [⟨tg, iter, ifs, 0⟩] scope _ => some ⟨kx, vx, tg, iter, ifs, scope⟩
  | _ => none
theorem asDC_some {e : Expr} {c : CompD} (h : asDC e = some c) : ∃ pos, e = .DictComp c.kx c.vx [⟨c.tg, c.iter, c.ifs, 0⟩] c.scope pos := by
  cases e with
  | DictComp kx vx gs scope pos =>
    unfold asDC at h
    split at h
    · rename_i heq
      cases heq
      cases h
      exact ⟨_, rfl⟩
    · cases h
  | _ => simp [asDC] at h
/-- keys and values of a display, one behind another -/
def laced : List (Option Expr) → List Expr → Option (List Expr)
  | [], [] => some []
  | some k :: ks, v :: vs => (laced ks vs).map fun r => k :: v :: r
  | _, _ => none
def asDict : Expr → Option (List Expr)
  | .Dict ks vs _ => laced ks vs
  | _ => none
theorem asDict_some {e : Expr} {l : List Expr} (h : asDict e = some l) : ∃ ks vs pos, e = .Dict ks vs pos ∧ laced ks vs = some l := by
  cases e <;> simp [asDict] at h
  exact ⟨_, _, _, rfl, h⟩
def isStar : Expr → Bool
  | .Starred _ _ => true
  | _ => false
def isSetE : Expr → Bool
  | .Set _ _ _ => true
  | _ => false

/-! ### the checker -/
/-- what the module's names are: the defs, the constants -/
structure GI where
  fs : List Str
  cs : List Str
  g : Bool := false
/-- no generator expressions within -/
def GI.off (gi : GI) : GI := { gi with g := false }
def GI.on (gi : GI) (b : Bool) : GI := { gi with g := b }
def noCell (sc : Scope) : Bool := sc.names.all fun y => match y.2 with
  | .cell => false
  | _ => true
def dotLoc (sc : Scope) : Bool := match sc.names.lookup (".0" : Str) with
  | some .local => true
  | _ => false
def genC (N : List Str) (sc scope : Scope) (own : List (Str × Nat)) : Bool := blkC N sc scope own && !scope.isCoroutine && noCell scope && dotLoc scope
def gnN (stop : Bool) : String := if stop then "any" else "all"
def gkN : Gk → String
  | .sum => "sum"
  | .all => "all"
  | .any => "any"
def Gk.stop : Gk → Bool
  | .any => true
  | _ => false
def isVis (sc : Scope) (x : Str) : Bool := match sc.names.lookup x with
  | some .local => true
  | some .cell => true
  | some .free => true
  | _ => false
def isLoc (sc : Scope) (x : Str) : Bool := match sc.names.lookup x with
  | some .local => true
  | some .cell => true
  | _ => false
def isGl (sc : Scope) (x : Str) : Bool := match sc.names.lookup x with
  | some .globalImplicit => true
  | _ => false
def okC : D → Const → Bool
  | .non, .none => true
  | .bl a, .bool b => a == b
  | .int a, .int b => a == b
  | .str l, .str s => decide (s = mkS l)
  | _, _ => false
def okV (N : List Str) (sc : Scope) (i : Nat) (x : Expr) : Bool := match asName x with
  | some y => decide (N[i]? = some y) && isVis sc y
  | none => false
mutual
def okT (N : List Str) (sc : Scope) : T → Expr → Bool
  | .nm i, x => match asName x with
    | some y => decide (N[i]? = some y) && isLoc sc y
    | none => false
  | .tu ts, x => match asTup x with
    | some es => okTs N sc ts es
    | none => false
def okTs (N : List Str) (sc : Scope) : List T → List Expr → Bool
  | [], [] => true
  | t :: ts, x :: xs => okT N sc t x && okTs N sc ts xs
  | _, _ => false
end
def ownOf (N : List Str) (is : List Nat) : List (Str × Nat) := is.map fun i => (N.getD i ("" : Str), i)
mutual
def okE (gi : GI) (N : List Str) (sc : Scope) : E → Expr → Bool
  | .nop, _ => true
  | .var i, x => okV N sc i x
  | .cst d, x => match asConst x with
    | some c => okC d c
    | none => false
  | .glb g, x => match asName x with
    | some y => decide (gi.cs[g]? = some y) && isGl sc y
    | none => false
  | .bin op a b, x => match asBin x with
    | some (l, o, r) => decide (o = bopP op) && okE gi N sc a l && okE gi N sc b r
    | none => false
  | .neg a, x => match asUn x with
    | some (o, r) => decide (o = .USub) && okE gi N sc a r
    | none => false
  | .cmp op a b, x => match asCmp x with
    | some (l, [o], [r]) => decide (o = copP op) && !isSetE r && okE gi N sc a l && okE gi N sc b r
    | _ => false
  | .chn op op' a b c, x => match asCmp x with
    | some (l, [o, o'], [m, r]) => decide (o = copP op) && decide (o' = copP op') && !isSetE m && !isSetE r && okE gi N sc a l && okE gi N sc b m && okE gi N sc c r
    | _ => false
  | .and a b, x => match asBool x with
    | some (o, l, r) => decide (o = .And) && okE gi N sc a l && okE gi N sc b (peel r)
    | none => false
  | .or a b, x => match asBool x with
    | some (o, l, r) => decide (o = .Or) && okE gi N sc a l && okE gi N sc b (peel r)
    | none => false
  | .not a, x => match asUn x with
    | some (o, r) => decide (o = .Not) && okE gi N sc a r
    | none => false
  | .ite c a b, x => match asIf x with
    | some (y, l, r) => okE gi N sc c y && okE gi N sc a l && okE gi N sc b r
    | none => false
  | .tup es, x => match asTup x with
    | some l => okEs gi N sc es l
    | none => false
  | .lst es, x => match asLst x with
    | some l => okEs gi N sc es l
    | none => false
  | .idx a b, x => match asSub x with
    | some (l, r) => okE gi N sc a l && okE gi N sc b r
    | none => false
  | .idv i b, x => match asSub x with
    | some (l, r) => okV N sc i l && okE gi N sc b r
    | none => false
  | .sli a lo hi, x => match asSli x with
    | some (l, m, r) => okE gi N sc a l &&
        (match m with
          | none => lo.isNop
          | some y => !lo.isNop && okE gi N sc lo y) &&
        (match r with
          | none => hi.isNop
          | some y => !hi.isNop && okE gi N sc hi y)
    | none => false
  | .lenv i, x => match asCall x with
    | some (f, [y]) => decide (f = ("len" : Str)) && isGl sc f && okV N sc i y
    | _ => false
  | .inv op a i, x => match asCmp x with
    | some (l, [o], [r]) => decide (o = copP op) && okE gi N sc a l && okV N sc i r
    | _ => false
  | .cmv op i a, x => match asCmp x with
    | some (l, [o], [r]) => decide (o = copP op) && !isSetE r && okV N sc i l && okE gi N sc a r
    | _ => false
  | .bi b es, x => match asCall x with
    | some (f, l) => decide (b ≠ .join) && decide (f = (biN b : Str)) && isGl sc f && !l.isEmpty && okEs gi N sc es l
    | none => false
  | .joi a b, x => match asMeth x with
    | some (o, m, [y]) => decide (m = ("join" : Str)) && !isStar y && okE gi N sc a o && okE gi N sc b y
    | _ => false
  | .cal f es, x => match asCall x with
    | some (g, l) => decide (gi.fs[f]? = some g) && isGl sc g && !l.isEmpty && okEs gi N sc es l
    | none => false
  | .car f i es, x => match asCall x with
    | some (g, y :: l) => decide (gi.fs[f]? = some g) && isGl sc g && okV N sc i y && okEs gi N sc es l
    | _ => false
  | .lc elt t it c, x => match asLC x with
    | some z => blkC N sc z.scope (ownOf N t.slots) && okI gi N sc it z.iter z.tg && okT N z.scope t z.tg &&
        (match z.ifs with
          | [] => c.isNop
          | [y] => !c.isNop && okE gi N (relS z.scope sc) c y
          | _ => false) && okE gi N (relS z.scope sc) elt z.elt
    | none => false
  | .lc2 elt t it c t' it' c', x => match asLC2 x with
    | some z => blkC N sc z.scope (ownOf N (t.slots ++ t'.slots)) && okI gi N sc it z.iter z.tg && okT N z.scope t z.tg &&
        (match z.ifs with
          | [] => c.isNop
          | [y] => !c.isNop && okE gi N (relS z.scope sc) c y
          | _ => false) && okI gi N (relS z.scope sc) it' z.iter' z.tg' && okT N z.scope t' z.tg' &&
        (match z.ifs' with
          | [] => c'.isNop
          | [y] => !c'.isNop && okE gi N (relS z.scope sc) c' y
          | _ => false) && okE gi N (relS z.scope sc) elt z.elt
    | none => false
  | .gen k elt t it c, x => match asCall x with
    | some (f, [y]) => gi.g && decide (f = ((gkN k : String) : Str)) && isGl sc f && (match asGen y with
      | some z => genC N sc z.scope (ownOf N t.slots) && (asLst z.iter).isNone && okI gi N sc it z.iter z.tg && okT N z.scope t z.tg &&
        (match z.ifs with
          | [] => c.isNop
          | [y] => !c.isNop && okE gi.off N z.scope c y
          | _ => false) && okE gi.off N z.scope elt z.elt
      | none => false)
    | _ => false
  | .srs elt t it c, x => match asCall x with
    | some (f, [y]) => decide (f = ("sorted" : Str)) && isGl sc f && (match asSC y with
      | some z => blkC N sc z.scope (ownOf N t.slots) && okI gi N sc it z.iter z.tg && okT N z.scope t z.tg &&
        (match z.ifs with
          | [] => c.isNop
          | [y] => !c.isNop && okE gi N (relS z.scope sc) c y
          | _ => false) && okE gi N (relS z.scope sc) elt z.elt
      | none => false)
    | _ => false
  | .dic es, x => match asDict x with
    | some l => !l.isEmpty && decide (l.length ≤ 30) && okEs gi N sc es l
    | none => false
  | .dc kx vx t it c, x => match asDC x with
    | some z => blkC N sc z.scope (ownOf N t.slots) && okI gi N sc it z.iter z.tg && okT N z.scope t z.tg &&
        (match z.ifs with
          | [] => c.isNop
          | [y] => !c.isNop && okE gi N (relS z.scope sc) c y
          | _ => false) && okE gi N (relS z.scope sc) kx z.kx && okE gi N (relS z.scope sc) vx z.vx
    | none => false
  | .lrg a, x => match asCall x with
    | some (f, [y]) => decide (f = ("list" : Str)) && isGl sc f && (match asCall y with
      | some (g, [w]) => decide (g = ("range" : Str)) && isGl sc g && !isStar w && okE gi N sc a w
      | _ => false)
    | _ => false
  | .isi t a, x => match asCall x with
    | some (f, [y, z]) => decide (f = ("isinstance" : Str)) && isGl sc f && !isStar y && okE gi N sc a y && (match asName z with
      | some n => decide (n = ((t.nm : String) : Str)) && isGl sc n
      | none => false)
    | _ => false
  | .sme mm a b, x => match asMeth x with
    | some (o, m, [y]) => decide (m = ((mm.nm : String) : Str)) && !isStar y && okE gi N sc a o && okE gi N sc b y
    | _ => false
  | .pop i, x => match asMeth x with
    | some (o, m, []) => decide (m = ("pop" : Str)) && okV N sc i o
    | _ => false
  | .pop0 i, x => match asMeth x with
    | some (o, m, [y]) => decide (m = ("pop" : Str)) && okV N sc i o && decide (asConst y = some (.int 0))
    | _ => false
/-- what is walked; tg: the target, for the pairs of enumerate and zip -/
def okI (gi : GI) (N : List Str) (sc : Scope) : I → Expr → Expr → Bool
  | .frz e, x, _ => !isSetE x && okE gi N sc e x
  | .mov i, x, _ => okV N sc i x
  | .rng es, x, _ => match asCall x with
    | some (f, l) => decide (f = ("range" : Str)) && isGl sc f && decide (l.length ≤ 3) && okEs gi N sc es l
    | none => false
  | .enm e, x, _ => false
  | .zip a b, x, _ => false
  | .rev e, x, _ => match asCall x with
    | some (f, [l]) => decide (f = ("reversed" : Str)) && isGl sc f && !isStar l && okE gi N sc e l
    | _ => false
def okEs (gi : GI) (N : List Str) (sc : Scope) : Es → List Expr → Bool
  | .nil, l => l.isEmpty
  | .cons e es, l => match l with
    | x :: r => !isStar x && okE gi N sc e x && okEs gi N sc es r
    | [] => false
end
end Gw

set_option Elab.async false
set_option linter.all false
set_option maxRecDepth 100000
set_option maxHeartbeats 2000000
/-! The value layer, part 8: what the checker accepts, runs as the small syntax says. -/
namespace Gw
open PySem L2

def onlyRef : Sl → Sl
  | .ref d => .ref d
  | _ => .no
/-- a def's promise -/
def spF (K : PySem.W.Frag) (tabs : List Addr) (F : Fn) : Sp := fun vs H Q _ => ∃ (B : Bs) (ps : List Sl) (r : Rv) (ps' : List Sl),
  B.H0 = H ∧ B.tabs = tabs ∧ R K B ps (vs.map some) H ∧ (∀ s ∈ ps, ∀ d, s ≠ .own d) ∧ F ps = .ok (r, ps') ∧
  ∀ v H', R K B (ps'.map onlyRef ++ [r.sl]) (vs.map some ++ [some v]) H' → Q v H'
def bltNames : List Str := ["len", "abs", "int", "min", "max", "tuple", "list", "sorted", "sum", "range", "reversed", "all", "any", "enumerate", "zip", "isinstance", "bool", "dict", "set", "str"]
structure XOk (gi : GI) (G : Glo) (tabs : List Addr) (N : List Str) (sc ts : Scope) (k : Nat) (X : Cx) : Prop where
  hN : X.N = N
  sc : X.env.scope = sc
  calm : X.calm = true
  nd : N.Nodup
  dbg : ∀ x ∈ N, (x == ("__debug__" : Str)) = false ∧ (x == ("__classdict__" : Str)) = false
  room : Room k X.A
  roomG : gi.g = true → Room (k + 1) X.A
  code : gi.g = true → ∃ c P : Addr, X.env.code = .ref c ∧ GxR.TabB X.base X.mg c P ∧ P ∈ tabs
  blt : ∀ x ∈ bltNames, X.mg x = none
  fn : ∀ (f : Nat) (nm : Str), gi.fs[f]? = some nm → (nm == ("__debug__" : Str)) = false ∧ ∃ (a : Addr) (fd : FuncData) (ps : List Str), X.mg nm = some (.ref a) ∧ PySem.W.keepIn X.K (.ref a) = true ∧ Binds X.K fd ps [] ∧
    FnOk X.prog X.w X.K X.mg X.base CX0 k a fd ps (spF X.K tabs (G.fn f))
  cst : ∀ (g : Nat) (nm : Str) (d : D), gi.cs[g]? = some nm → G.cst g = some d → (nm == ("__debug__" : Str)) = false ∧ ∃ (u : Value) (v : V), X.mg nm = some u ∧ RelV v u ∧ ∀ M H, Rp X.K M H v d
  fnm : ∀ x, isLoc ts x = true → Loc X.env.scope x ∧ (X.fn x = true ∨ X.env.scope.names.lookup x = some .local)

def SE (tabs : List Addr) (X : Cx) (x : Expr) (F : Env → Res (Rv × Env)) : Prop := ∀ B : Bs, B.tabs = tabs → PE X x (tE X.K B F)
def ST (tabs : List Addr) (X : Cx) (x : Expr) (F : Env → Res (Rv × Env)) : Prop := ∀ B : Bs, B.tabs = tabs → PT X x (tTr X.K B F)
def SA (tabs : List Addr) (X : Cx) (x : List Expr) (F : Env → Res (List Rv × Env)) : Prop := ∀ B : Bs, B.tabs = tabs → PA X x (tAs X.K B F)

section
variable {gi : GI} {G : Glo} {tabs : List Addr} {N : List Str} {sc ts : Scope} {k : Nat} {X : Cx}
theorem XOk.hu (o : XOk gi G tabs N sc ts k X) : X.A.units + 65 < cLine := by have := o.room.un; omega
theorem isVis_iff {x : Str} (h : isVis sc x = true) : Vis sc x := by
  unfold isVis at h
  split at h
  · exact .inl (by assumption)
  · exact .inr (.inl (by assumption))
  · exact .inr (.inr (by assumption))
  · cases h
theorem isGl_iff {x : Str} (h : isGl sc x = true) : sc.names.lookup x = some .globalImplicit := by
  unfold isGl at h
  split at h
  · assumption
  · cases h
theorem isLoc_iff {x : Str} (h : isLoc sc x = true) : Loc sc x := by
  unfold isLoc at h
  split at h
  · exact .inl (by assumption)
  · exact .inr (by assumption)
  · cases h
/-- a name in its slot -/
theorem XOk.var (o : XOk gi G tabs N sc ts k X) {i : Nat} {x : Expr} (h : okV N sc i x = true) : PE X x (tVar i) := by
  unfold okV at h
  cases e : asName x with
  | none => rw [e] at h; cases h
  | some y =>
    rw [e] at h
    simp only [Bool.and_eq_true, decide_eq_true_eq] at h
    obtain ⟨p, rfl⟩ := asName_some e
    have hm : y ∈ N := List.mem_of_getElem? h.1
    obtain ⟨d1, d2⟩ := o.dbg y hm
    exact pe_var (by rw [o.hN]; exact h.1) (by rw [o.sc]; exact isVis_iff h.2) d1 d2
theorem XOk.gl (o : XOk gi G tabs N sc ts k X) {x : Str} (h : isGl sc x = true) : Gl X x := by
  show X.env.scope.names.lookup x = _
  rw [o.sc]; exact isGl_iff h

/-! ### slots within a whole state -/
theorem at_some {ρ : Env} {i : Nat} {s : Sl} (h : ρ.at i = s) (hs : s ≠ .no) : ρ[i]? = some s := by
  unfold Env.at at h
  cases e : ρ[i]? with
  | none => rw [e] at h; exact (hs h.symm).elim
  | some t => rw [e] at h; exact congrArg some h
theorem set_left {α : Type} {l m : List α} {i : Nat} {x : α} (h : i < l.length) : (l ++ m).set i x = l.set i x ++ m := by
  rw [List.set_append_left _ _ h]
theorem get_left {α : Type} {l m : List α} {i : Nat} (h : i < l.length) : (l ++ m)[i]? = l[i]? := List.getElem?_append_left h

theorem snd_var (o : XOk gi G tabs N sc ts k X) {i : Nat} {x : Expr} (h : okV N sc i x = true) : SE tabs X x (runE G (.var i)) := fun B _ => by
  refine (o.var h).imp fun σ H Q ⟨ρ, tt, vs, r, ρ', hR, hl, hF, hQ⟩ => ?_
  simp only [runE] at hF
  cases e : ρ.at i with
  | no => rw [e] at hF; cases hF
  | ref d => rw [e] at hF; cases hF
  | val d =>
    rw [e] at hF
    cases hF
    have g := at_some e (by intro z; cases z)
    obtain ⟨v, h1, h2⟩ := hR.val i d (getL g)
    have hi := lt_of_get g
    rw [get_left (by omega)] at h1
    exact ⟨v, h1, hQ v H (hR.push_val h2)⟩
  | own d =>
    rw [e] at hF
    cases hF
    have g := at_some e (by intro z; cases z)
    have hi := lt_of_get g
    have hR2 := hR.freeze (getL g)
    rw [set_left hi] at hR2
    obtain ⟨v, h1, h2⟩ := hR2.val i d (getL (List.getElem?_set_self hi))
    rw [get_left (by omega)] at h1
    exact ⟨v, h1, hQ v H (hR2.push_val h2)⟩
theorem okC_v {d : D} {c : Const} {kk : Nat} {p : Pos} (h : okC d c = true) : ∃ v, PE X (.Constant c kk p) (tC v) ∧ ∀ M H, Rp X.K M H v d := by
  cases d <;> cases c <;> simp [okC] at h
  · exact ⟨.non, pe_non, fun _ _ => .non⟩
  · subst h; exact ⟨.bl _, pe_bl, fun _ _ => .bl _⟩
  · subst h; exact ⟨.int _, pe_int, fun _ _ => .int _⟩
  · subst h; exact ⟨.str _, pe_str, fun _ _ => .str _⟩
theorem snd_cst {d : D} {x : Expr} (h : okE gi N sc (.cst d) x = true) : SE tabs X x (runE G (.cst d)) := fun B _ => by
  simp only [okE] at h
  cases e : asConst x with
  | none => rw [e] at h; cases h
  | some c =>
    rw [e] at h
    obtain ⟨kk, p, rfl⟩ := asConst_some e
    obtain ⟨v, h1, h2⟩ := okC_v (X := X) h
    refine h1.imp fun σ H Q ⟨ρ, tt, vs, r, ρ', hR, hl, hF, hQ⟩ => ?_
    simp only [runE] at hF
    cases hF
    exact hQ v H (hR.push_val (h2 _ _))
theorem snd_glb (o : XOk gi G tabs N sc ts k X) {g : Nat} {x : Expr} (h : okE gi N sc (.glb g) x = true) : SE tabs X x (runE G (.glb g)) := fun B _ => by
  simp only [okE] at h
  cases e : asName x with
  | none => rw [e] at h; cases h
  | some y =>
    rw [e] at h
    simp only [Bool.and_eq_true, decide_eq_true_eq] at h
    obtain ⟨p, rfl⟩ := asName_some e
    cases q : G.cst g with
    | none =>
      refine ⟨fun pins s σ H Q I ⟨ρ, tt, vs, r, ρ', hR, hl, hF, hQ⟩ => ?_⟩
      simp only [runE, q] at hF
      cases hF
    | some d =>
      obtain ⟨db, u, v, h1, h2, h3⟩ := o.cst g y d h.1 q
      refine (pe_glob (o.gl h.2) h1 h2 db).imp fun σ H Q ⟨ρ, tt, vs, r, ρ', hR, hl, hF, hQ⟩ => ?_
      simp only [runE, q] at hF
      cases hF
      exact hQ v H (hR.push_val (h3 _ _))
theorem snd_bin {op : Bop} {a b : E} {x : Expr} (h : okE gi N sc (.bin op a b) x = true) (iha : ∀ y, okE gi N sc a y = true → SE tabs X y (runE G a)) (ihb : ∀ y, okE gi N sc b y = true → SE tabs X y (runE G b)) : SE tabs X x (runE G (.bin op a b)) := fun B hB => by
  simp only [okE] at h
  cases e : asBin x with
  | none => rw [e] at h; cases h
  | some z =>
    obtain ⟨l, oo, r⟩ := z
    rw [e] at h
    simp only [Bool.and_eq_true, decide_eq_true_eq] at h
    obtain ⟨p, rfl⟩ := asBin_some e
    obtain ⟨⟨rfl, h1⟩, h2⟩ := h
    refine (pe_op (opd_bin op) (iha l h1 B hB) (ihb r h2 B hB)).imp fun σ H Q q => ?_
    refine read2 ?_
    simpa only [runE] using q
theorem snd_neg {a : E} {x : Expr} (h : okE gi N sc (.neg a) x = true) (iha : ∀ y, okE gi N sc a y = true → SE tabs X y (runE G a)) : SE tabs X x (runE G (.neg a)) := fun B hB => by
  simp only [okE] at h
  cases e : asUn x with
  | none => rw [e] at h; cases h
  | some z =>
    obtain ⟨oo, r⟩ := z
    rw [e] at h
    simp only [Bool.and_eq_true, decide_eq_true_eq] at h
    obtain ⟨p, rfl⟩ := asUn_some e
    obtain ⟨rfl, h1⟩ := h
    refine (pe_un und_neg (iha r h1 B hB)).imp fun σ H Q q => ?_
    refine read1 ?_
    simpa only [runE] using q
theorem cb_bind (o : Option Bool) (ρ : Env) : ((Res.of (cb o)).bind fun r => .ok (r, ρ) : Res (Rv × Env)) = (Res.of o).bind fun r => .ok (.val (.bl r), ρ) := by cases o <;> rfl
theorem notset {op : CmpOp} {r : Expr} (h : isSetE r = false) : behindInMarks op r = false := by
  cases r <;> first | rfl | (simp [isSetE] at h)
theorem snd_cmp (o : XOk gi G tabs N sc ts k X) {op : Cop} {a b : E} {x : Expr} (h : okE gi N sc (.cmp op a b) x = true) (iha : ∀ y, okE gi N sc a y = true → SE tabs X y (runE G a)) (ihb : ∀ y, okE gi N sc b y = true → SE tabs X y (runE G b)) : SE tabs X x (runE G (.cmp op a b)) ∧ ST tabs X x (runE G (.cmp op a b)) := by
  simp only [okE] at h
  split at h
  · rename_i l oo r e
    simp only [Bool.and_eq_true, decide_eq_true_eq, Bool.not_eq_true'] at h
    obtain ⟨p, rfl⟩ := asCmp_some e
    obtain ⟨⟨⟨rfl, h0⟩, h1⟩, h2⟩ := h
    have hr : ∀ B σ H Q, tE X.K B (runE G (.cmp op a b)) σ H Q → tOp (opD X.K fun a b => cb (dCmp op a b)) (tE X.K B (runE G a)) (tE X.K B (runE G b)) σ H Q := fun B σ H Q q => by
      refine read2 (g := fun a b => cb (dCmp op a b)) ?_
      obtain ⟨ρ, tt, vs, r, ρ', hR, hl, hF, hQ⟩ := q
      refine ⟨ρ, tt, vs, r, ρ', hR, hl, ?_, hQ⟩
      simp only [runE] at hF
      simp only [cb_bind]
      exact hF
    refine ⟨fun B hB => ?_, fun B hB => ?_⟩
    · exact (pe_cmpR (opd_cmp o.hu op) (iha l h1 B hB) (ihb r h2 B hB) (notset h0)).imp fun σ H Q q => hr B σ H Q q
    · refine (pt_cmpR (opd_cmp o.hu op) (iha l h1 B hB) (ihb r h2 B hB) (notset h0)).imp fun σ H Q q => ?_
      obtain ⟨ρ, tt, vs, r, ρ', b, hR, hl, hF, hb, hQ⟩ := q
      refine hr B σ H _ ⟨ρ, tt, vs, r, ρ', hR, hl, hF, fun v H' R1 => ?_⟩
      obtain ⟨q0, q1⟩ := R1.take1
      have hF2 := hF
      simp only [runE] at hF2
      obtain ⟨p1, g1, hF2⟩ := Res.bind_ok hF2
      obtain ⟨p2, g2, hF2⟩ := Res.bind_ok hF2
      obtain ⟨c, g3, hF2⟩ := Res.bind_ok hF2
      cases hF2
      cases hb
      exact ⟨_, q1.blV, hQ H' q0⟩
  · cases h

/-! ### chains -/
theorem snd_chn (o : XOk gi G tabs N sc ts k X) {op op' : Cop} {a b c : E} {x : Expr} (h : okE gi N sc (.chn op op' a b c) x = true) (iha : ∀ y, okE gi N sc a y = true → SE tabs X y (runE G a)) (ihb : ∀ y, okE gi N sc b y = true → SE tabs X y (runE G b)) (ihc : ∀ y, okE gi N sc c y = true → SE tabs X y (runE G c)) :
    SE tabs X x (runE G (.chn op op' a b c)) ∧ ST tabs X x (runE G (.chn op op' a b c)) := by
  simp only [okE] at h
  split at h
  · rename_i l oo oo' m r e
    simp only [Bool.and_eq_true, decide_eq_true_eq, Bool.not_eq_true'] at h
    obtain ⟨p, rfl⟩ := asCmp_some e
    obtain ⟨⟨⟨⟨⟨⟨rfl, rfl⟩, hs1⟩, hs2⟩, h1⟩, h2⟩, h3⟩ := h
    have hr : ∀ B σ H Q, tE X.K B (runE G (.chn op op' a b c)) σ H Q → tChain (opD X.K fun a b => cb (dCmp op a b)) (opD X.K fun a b => cb (dCmp op' a b)) (tE X.K B (runE G a)) (tE X.K B (runE G b)) (tE X.K B (runE G c)) σ H Q := fun B σ H Q q => by
      obtain ⟨ρ, tt, vs, r, ρ', hR, hl, hF, hQ⟩ := q
      simp only [runE] at hF
      obtain ⟨⟨ra, ρ1⟩, g1, hF⟩ := Res.bind_ok hF
      obtain ⟨⟨rb, ρ2⟩, g2, hF⟩ := Res.bind_ok hF
      obtain ⟨k1, g3, hF⟩ := Res.bind_ok hF
      have g3 := Res.of_ok g3
      refine ⟨ρ, tt, vs, ra, ρ1, hR, hl, g1, fun x1 H1 R1 => ?_⟩
      have l1 : ρ1.length = σ.length := by have a := hR.len; have b := R1.len; simp at a b; omega
      refine ⟨ρ1, tt ++ [ra.sl], vs ++ [some x1], rb, ρ2, by simpa using R1, l1, g2, fun x2 H2 R2 => ?_⟩
      have R2' : R X.K B ((ρ2 ++ tt) ++ [ra.sl] ++ [rb.sl]) ((σ ++ vs) ++ [some x1] ++ [some x2]) H2 := by simpa using R2
      obtain ⟨q0, q1, q2⟩ := R2'.take2
      have l2 : ρ2.length = σ.length := by have a := hR.len; have b := q0.len; simp at a b; omega
      -- the right value of the first comparison stays a temp
      refine ⟨B, (ρ2 ++ tt) ++ [(Rv.val rb.d).sl], (σ ++ vs) ++ [some x2], ra.d, rb.d, .val (.bl k1), q0.push_val q2, ?_, ?_, by simp only [g3]; rfl, fun z H3 R3 => ?_⟩
      · exact .rp (rp_congr (fun a m => (mt_push_val q0.len).mp m) q1)
      · exact .rp (rp_congr (fun a m => (mt_push_val q0.len).mp m) q2)
      · obtain ⟨q3, q4⟩ := R3.take1
        refine ⟨k1, q4.blV, ?_⟩
        cases k1 with
        | false =>
          simp only [Bool.false_eq_true, if_false] at hF ⊢
          cases hF
          obtain ⟨q5, _⟩ := q3.take1
          exact hQ _ H3 (q5.push_val (.bl false))
        | true =>
          simp only [if_true] at hF ⊢
          obtain ⟨⟨rc, ρ3⟩, g4, hF⟩ := Res.bind_ok hF
          obtain ⟨k2, g5, hF⟩ := Res.bind_ok hF
          have g5 := Res.of_ok g5
          cases hF
          refine ⟨ρ2, tt ++ [(Rv.val rb.d).sl], vs ++ [some x2], rc, ρ3, by simpa using q3, l2, g4, fun x3 H4 R4 => ?_⟩
          have R4' : R X.K B ((ρ3 ++ tt) ++ [(Rv.val rb.d).sl] ++ [rc.sl]) ((σ ++ vs) ++ [some x2] ++ [some x3]) H4 := by simpa using R4
          obtain ⟨q6, q7, q8⟩ := R4'.take2
          exact ⟨B, _, _, _, _, _, q6, .rp q7, .rp q8, by show cb (dCmp op' rb.d rc.d) = _; rw [show dCmp op' rb.d rc.d = some k2 from g5]; rfl, hQ⟩
    refine ⟨fun B hB => ?_, fun B hB => ?_⟩
    · exact (pe_chain (opd_cmp o.hu op) (opd_cmp o.hu op') (iha l h1 B hB) (ihb m h2 B hB) (ihc r h3 B hB) (notset hs2)).imp fun σ H Q q => hr B σ H Q q
    · refine (pt_chain (opd_cmp o.hu op) (opd_cmp o.hu op') (iha l h1 B hB) (ihb m h2 B hB) (ihc r h3 B hB) (notset hs2)).imp fun σ H Q q => ?_
      obtain ⟨ρ, tt, vs, r, ρ', b', hR, hl, hF, hb, hQ⟩ := q
      refine hr B σ H _ ⟨ρ, tt, vs, r, ρ', hR, hl, hF, fun v H' R1 => ?_⟩
      obtain ⟨q0, q1⟩ := R1.take1
      have hF2 := hF
      simp only [runE] at hF2
      obtain ⟨p1, g1, hF2⟩ := Res.bind_ok hF2
      obtain ⟨p2, g2, hF2⟩ := Res.bind_ok hF2
      obtain ⟨k1, g3, hF2⟩ := Res.bind_ok hF2
      cases k1 with
      | false =>
        simp only [Bool.false_eq_true, if_false] at hF2
        cases hF2
        cases hb
        exact ⟨_, q1.blV, hQ H' q0⟩
      | true =>
        simp only [if_true] at hF2
        obtain ⟨p4, g4, hF2⟩ := Res.bind_ok hF2
        obtain ⟨k2, g5, hF2⟩ := Res.bind_ok hF2
        cases hF2
        cases hb
        exact ⟨_, q1.blV, hQ H' q0⟩
  · cases h

/-! ### and, or, not, if -/
theorem tE_tTr {B : Bs} {F : Env → Res (Rv × Env)} {σ : L2.St} {H : Hp} {Q : Bool → Hp → Prop} (h : tTr X.K B F σ H Q) : tE X.K B F σ H fun x H1 => ∃ b, TruV X.K x H1 b ∧ Q b H1 := by
  obtain ⟨ρ, tt, vs, r, ρ', b, hR, hl, hF, hb, hQ⟩ := h
  refine ⟨ρ, tt, vs, r, ρ', hR, hl, hF, fun v H' R1 => ?_⟩
  obtain ⟨q0, q1⟩ := R1.take1
  exact ⟨b, truV_of q1 hb, hQ H' q0⟩
/-- a test whose answer is its value's truth -/
def plainTest : Expr → Bool
  | .BoolOp _ _ _ => false
  | .UnaryOp .Not _ _ => false
  | .IfExp _ _ _ _ => false
  | .Compare _ _ _ _ => false
  | _ => true
theorem isTrue_plainTest {x : Expr} {env : PySem.Env} (h : plainTest x = true) : ∀ whole, isTrue x env whole = (do let v ← whole; standAt x.pos; holding [v] (truthy v)) := by
  intro whole
  cases x with
  | UnaryOp op _ _ => cases op <;> first | (simp [plainTest] at h; done) | rfl
  | BoolOp _ _ _ => simp [plainTest] at h
  | IfExp _ _ _ _ => simp [plainTest] at h
  | Compare _ _ _ _ => simp [plainTest] at h
  | _ => rfl
theorem st_plain {x : Expr} {F : Env → Res (Rv × Env)} (h : plainTest x = true) (he : SE tabs X x F) : ST tabs X x F := fun B hB =>
  (pt_truth (he B hB) (isTrue_plainTest h)).imp fun σ H Q q => tE_tTr q
theorem pe_peel {z : Expr} {t : TE} (h : PE X (peel z) t) : PE X z t := by
  cases z with
  | BoolOp op vs p =>
    cases vs with
    | nil => exact h
    | cons a r => cases r with
      | nil => exact pe_one h
      | cons _ _ => exact h
  | _ => exact h
theorem pw_peelA {y : Expr} {rest : List Expr} {p : Pos} {t : TT} (h : PT X (peel (.BoolOp .And (y :: rest) p)) t) : PW X (.BoolOp .And (y :: rest) p) t := by
  cases rest with
  | nil => exact pw_and1 h
  | cons _ _ => exact ⟨fun wh pins s σ H Q I q => h.run pins s σ H Q I q⟩
theorem pw_peelO {y : Expr} {rest : List Expr} {p : Pos} {t : TT} (h : PT X (peel (.BoolOp .Or (y :: rest) p)) t) : PW X (.BoolOp .Or (y :: rest) p) t := by
  cases rest with
  | nil => exact pw_or1 h
  | cons _ _ => exact ⟨fun wh pins s σ H Q I q => h.run pins s σ H Q I q⟩
theorem snd_and {a b : E} {x : Expr} (h : okE gi N sc (.and a b) x = true) (iha : ∀ y, okE gi N sc a y = true → SE tabs X y (runE G a) ∧ ST tabs X y (runE G a)) (ihb : ∀ y, okE gi N sc b y = true → SE tabs X y (runE G b) ∧ ST tabs X y (runE G b)) :
    SE tabs X x (runE G (.and a b)) ∧ ST tabs X x (runE G (.and a b)) := by
  simp only [okE] at h
  cases e : asBool x with
  | none => rw [e] at h; cases h
  | some z =>
    obtain ⟨oo, l, r⟩ := z
    rw [e] at h
    simp only [Bool.and_eq_true, decide_eq_true_eq] at h
    obtain ⟨y, rest, p, rfl, rfl⟩ := asBool_some e
    obtain ⟨⟨rfl, h1⟩, h2⟩ := h
    refine ⟨fun B hB => ?_, fun B hB => ?_⟩
    · refine (pe_andT ((iha l h1).1 B hB) (pe_peel ((ihb _ h2).1 B hB))).imp fun σ H Q q => ?_
      obtain ⟨ρ, tt, vs, r, ρ', hR, hl, hF, hQ⟩ := q
      simp only [runE] at hF
      obtain ⟨⟨ra, ρ1⟩, g1, hF⟩ := Res.bind_ok hF
      obtain ⟨t, g2, hF⟩ := Res.bind_ok hF
      have g2 := Res.of_ok g2
      refine ⟨ρ, tt, vs, ra, ρ1, hR, hl, g1, fun v H' R1 => ?_⟩
      obtain ⟨q0, q1⟩ := R1.take1
      have l1 : ρ1.length = σ.length := by have a := hR.len; have b := q0.len; simp at a b; omega
      refine ⟨t, truV_of q1 g2, ?_⟩
      cases t with
      | true =>
        simp only [if_true] at hF ⊢
        exact ⟨ρ1, tt, vs, r, ρ', q0, l1, hF, hQ⟩
      | false =>
        simp only [Bool.false_eq_true, if_false] at hF ⊢
        cases hF
        exact hQ v H' R1
    · refine (pw_and ((iha l h1).2 B hB) (pw_peelA ((ihb _ h2).2 B hB))).pt.imp fun σ H Q q => ?_
      obtain ⟨ρ, tt, vs, r, ρ', bb, hR, hl, hF, hb, hQ⟩ := q
      simp only [runE] at hF
      obtain ⟨⟨ra, ρ1⟩, g1, hF⟩ := Res.bind_ok hF
      obtain ⟨t, g2, hF⟩ := Res.bind_ok hF
      have g2 := Res.of_ok g2
      refine ⟨ρ, tt, vs, ra, ρ1, t, hR, hl, g1, g2, fun H' R1 => ?_⟩
      have l1 : ρ1.length = σ.length := by have a := hR.len; have b := R1.len; simp at a b; omega
      cases t with
      | true =>
        simp only [if_true] at hF ⊢
        exact ⟨ρ1, tt, vs, r, ρ', bb, R1, l1, hF, hb, hQ⟩
      | false =>
        simp only [Bool.false_eq_true, if_false] at hF ⊢
        cases hF
        rw [show dTruth r.d = some false from g2] at hb
        cases hb
        exact hQ H' R1
theorem snd_or {a b : E} {x : Expr} (h : okE gi N sc (.or a b) x = true) (iha : ∀ y, okE gi N sc a y = true → SE tabs X y (runE G a) ∧ ST tabs X y (runE G a)) (ihb : ∀ y, okE gi N sc b y = true → SE tabs X y (runE G b) ∧ ST tabs X y (runE G b)) :
    SE tabs X x (runE G (.or a b)) ∧ ST tabs X x (runE G (.or a b)) := by
  simp only [okE] at h
  cases e : asBool x with
  | none => rw [e] at h; cases h
  | some z =>
    obtain ⟨oo, l, r⟩ := z
    rw [e] at h
    simp only [Bool.and_eq_true, decide_eq_true_eq] at h
    obtain ⟨y, rest, p, rfl, rfl⟩ := asBool_some e
    obtain ⟨⟨rfl, h1⟩, h2⟩ := h
    refine ⟨fun B hB => ?_, fun B hB => ?_⟩
    · refine (pe_orT ((iha l h1).1 B hB) (pe_peel ((ihb _ h2).1 B hB))).imp fun σ H Q q => ?_
      obtain ⟨ρ, tt, vs, r, ρ', hR, hl, hF, hQ⟩ := q
      simp only [runE] at hF
      obtain ⟨⟨ra, ρ1⟩, g1, hF⟩ := Res.bind_ok hF
      obtain ⟨t, g2, hF⟩ := Res.bind_ok hF
      have g2 := Res.of_ok g2
      refine ⟨ρ, tt, vs, ra, ρ1, hR, hl, g1, fun v H' R1 => ?_⟩
      obtain ⟨q0, q1⟩ := R1.take1
      have l1 : ρ1.length = σ.length := by have a := hR.len; have b := q0.len; simp at a b; omega
      refine ⟨t, truV_of q1 g2, ?_⟩
      cases t with
      | false =>
        simp only [Bool.false_eq_true, if_false] at hF ⊢
        exact ⟨ρ1, tt, vs, r, ρ', q0, l1, hF, hQ⟩
      | true =>
        simp only [if_true] at hF ⊢
        cases hF
        exact hQ v H' R1
    · refine (pw_or ((iha l h1).2 B hB) (pw_peelO ((ihb _ h2).2 B hB))).pt.imp fun σ H Q q => ?_
      obtain ⟨ρ, tt, vs, r, ρ', bb, hR, hl, hF, hb, hQ⟩ := q
      simp only [runE] at hF
      obtain ⟨⟨ra, ρ1⟩, g1, hF⟩ := Res.bind_ok hF
      obtain ⟨t, g2, hF⟩ := Res.bind_ok hF
      have g2 := Res.of_ok g2
      refine ⟨ρ, tt, vs, ra, ρ1, t, hR, hl, g1, g2, fun H' R1 => ?_⟩
      have l1 : ρ1.length = σ.length := by have a := hR.len; have b := R1.len; simp at a b; omega
      cases t with
      | false =>
        simp only [Bool.false_eq_true, if_false] at hF ⊢
        exact ⟨ρ1, tt, vs, r, ρ', bb, R1, l1, hF, hb, hQ⟩
      | true =>
        simp only [if_true] at hF ⊢
        cases hF
        rw [show dTruth r.d = some true from g2] at hb
        cases hb
        exact hQ H' R1
theorem snd_not {a : E} {x : Expr} (h : okE gi N sc (.not a) x = true) (iha : ∀ y, okE gi N sc a y = true → SE tabs X y (runE G a) ∧ ST tabs X y (runE G a)) :
    SE tabs X x (runE G (.not a)) ∧ ST tabs X x (runE G (.not a)) := by
  simp only [okE] at h
  cases e : asUn x with
  | none => rw [e] at h; cases h
  | some z =>
    obtain ⟨oo, r⟩ := z
    rw [e] at h
    simp only [Bool.and_eq_true, decide_eq_true_eq] at h
    obtain ⟨p, rfl⟩ := asUn_some e
    obtain ⟨rfl, h1⟩ := h
    refine ⟨fun B hB => ?_, fun B hB => ?_⟩
    · refine (pe_notT ((iha r h1).1 B hB)).imp fun σ H Q q => ?_
      obtain ⟨ρ, tt, vs, r, ρ', hR, hl, hF, hQ⟩ := q
      simp only [runE] at hF
      obtain ⟨⟨ra, ρ1⟩, g1, hF⟩ := Res.bind_ok hF
      obtain ⟨t, g2, hF⟩ := Res.bind_ok hF
      have g2 := Res.of_ok g2
      cases hF
      refine ⟨ρ, tt, vs, ra, ρ1, hR, hl, g1, fun v H' R1 => ?_⟩
      obtain ⟨q0, q1⟩ := R1.take1
      exact ⟨t, truV_of q1 g2, hQ _ H' (q0.push_val (.bl _))⟩
    · refine (pt_not ((iha r h1).2 B hB)).imp fun σ H Q q => ?_
      obtain ⟨ρ, tt, vs, r, ρ', bb, hR, hl, hF, hb, hQ⟩ := q
      simp only [runE] at hF
      obtain ⟨⟨ra, ρ1⟩, g1, hF⟩ := Res.bind_ok hF
      obtain ⟨t, g2, hF⟩ := Res.bind_ok hF
      have g2 := Res.of_ok g2
      cases hF
      cases hb
      exact ⟨ρ, tt, vs, ra, ρ1, t, hR, hl, g1, g2, fun H' R1 => hQ H' R1⟩
theorem snd_ite {c a b : E} {x : Expr} (h : okE gi N sc (.ite c a b) x = true) (ihc : ∀ y, okE gi N sc c y = true → SE tabs X y (runE G c) ∧ ST tabs X y (runE G c)) (iha : ∀ y, okE gi N sc a y = true → SE tabs X y (runE G a)) (ihb : ∀ y, okE gi N sc b y = true → SE tabs X y (runE G b)) :
    SE tabs X x (runE G (.ite c a b)) := fun B hB => by
  simp only [okE] at h
  cases e : asIf x with
  | none => rw [e] at h; cases h
  | some z =>
    obtain ⟨y, l, r⟩ := z
    rw [e] at h
    simp only [Bool.and_eq_true] at h
    obtain ⟨p, rfl⟩ := asIf_some e
    refine (pe_ifExp ((ihc y h.1.1).2 B hB) (iha l h.1.2 B hB) (ihb r h.2 B hB)).imp fun σ H Q q => ?_
    obtain ⟨ρ, tt, vs, r, ρ', hR, hl, hF, hQ⟩ := q
    simp only [runE] at hF
    obtain ⟨⟨rc, ρ1⟩, g1, hF⟩ := Res.bind_ok hF
    obtain ⟨t, g2, hF⟩ := Res.bind_ok hF
    have g2 := Res.of_ok g2
    refine ⟨ρ, tt, vs, rc, ρ1, t, hR, hl, g1, g2, fun H' R1 => ?_⟩
    have l1 : ρ1.length = σ.length := by have a := hR.len; have b := R1.len; simp at a b; omega
    cases t with
    | true =>
      simp only [if_true] at hF ⊢
      exact ⟨ρ1, tt, vs, r, ρ', R1, l1, hF, hQ⟩
    | false =>
      simp only [Bool.false_eq_true, if_false] at hF ⊢
      exact ⟨ρ1, tt, vs, r, ρ', R1, l1, hF, hQ⟩
end
end Gw

set_option Elab.async false
set_option linter.all false
set_option maxRecDepth 100000
set_option maxHeartbeats 2000000
/-! The value layer, part 9: displays, places, calls. -/
namespace Gw
open PySem L2
section
variable {gi : GI} {G : Glo} {tabs : List Addr} {N : List Str} {sc ts : Scope} {k : Nat} {X : Cx}

theorem star_of {x : Expr} {xs : List Expr} {env : PySem.Env} (h : isStar x = false) : starEach (x :: xs) env = (false, eval x env) :: starEach xs env := by
  cases x <;> first | rfl | (simp [isStar] at h)
theorem okEs_star : ∀ {es : Es} {l : List Expr} {env : PySem.Env} {pos : Pos}, okEs gi N sc es l = true → (backTo pos (starEach l env)).any (·.1) = false
  | .nil, l, _, _, h => by
    have : l = [] := by simpa [okEs] using h
    subst this; rfl
  | .cons e es, [], _, _, h => by simp [okEs] at h
  | .cons e es, x :: r, env, pos, h => by
    simp only [okEs, Bool.and_eq_true, Bool.not_eq_true'] at h
    rw [star_of h.1.1]
    show ((backTo pos (starEach r env)).any (·.1)) = false
    exact okEs_star h.2

/-! ### argument lists -/
theorem snd_nil : SA tabs X [] (runEs G .nil) := fun B hB => pa_nil.imp fun σ H Q ⟨ρ, tt, vs, rs, ρ', hR, hl, hF, hQ⟩ => by
  simp only [runEs] at hF
  cases hF
  exact hQ [] H rfl (by simpa using hR)
theorem snd_cons {e : E} {es : Es} {x : Expr} {xs : List Expr} (hs : isStar x = false) (h1 : SE tabs X x (runE G e)) (h2 : SA tabs X xs (runEs G es)) : SA tabs X (x :: xs) (runEs G (.cons e es)) := fun B hB =>
  (pa_cons (h1 B hB) (h2 B hB) (star_of hs)).imp fun σ H Q ⟨ρ, tt, vs, rs, ρ', hR, hl, hF, hQ⟩ => by
    simp only [runEs] at hF
    obtain ⟨⟨ra, ρ1⟩, g1, hF⟩ := Res.bind_ok hF
    obtain ⟨⟨rb, ρ2⟩, g2, hF⟩ := Res.bind_ok hF
    cases hF
    refine ⟨ρ, tt, vs, ra, ρ1, hR, hl, g1, fun x1 H1 R1 => ?_⟩
    have l1 : ρ1.length = σ.length := by have a := hR.len; have b := R1.len; simp at a b; omega
    refine ⟨ρ1, tt ++ [ra.sl], vs ++ [some x1], rb, ρ2, by simpa using R1, l1, g2, fun us H2 hu R2 => ?_⟩
    exact hQ (x1 :: us) H2 (by simp [hu]) (by simpa using R2)

/-! ### displays -/
theorem snd_tup {es : Es} {x : Expr} (h : okE gi N sc (.tup es) x = true) (ih : ∀ l, okEs gi N sc es l = true → SA tabs X l (runEs G es)) : SE tabs X x (runE G (.tup es)) := fun B hB => by
  simp only [okE] at h
  cases e : asTup x with
  | none => rw [e] at h; cases h
  | some l =>
    rw [e] at h
    obtain ⟨kk, p, rfl⟩ := asTup_some e
    refine (pe_tup (ih l h B hB)).imp fun σ H Q ⟨ρ, tt, vs, r, ρ', hR, hl, hF, hQ⟩ => ?_
    simp only [runE] at hF
    obtain ⟨⟨rs, ρ1⟩, g1, hF⟩ := Res.bind_ok hF
    by_cases hz : lineOk rs.length = true
    · rw [if_pos hz] at hF
      cases hF
      refine ⟨ρ, tt, vs, rs, ρ1, hR, hl, g1, fun us H1 hu R1 => ?_⟩
      have e1 : (ρ1 ++ tt).length = (σ ++ vs).length := by have a := hR.len; have b := R1.len; simp at a b ⊢; omega
      obtain ⟨q0, q1⟩ := R1.takeAll e1
      exact ⟨by rw [hu]; exact lineOk_iff hz, fin_tup q0 q1 hQ⟩
    · rw [if_neg hz] at hF; cases hF
theorem snd_lst {es : Es} {x : Expr} (h : okE gi N sc (.lst es) x = true) (ih : ∀ l, okEs gi N sc es l = true → SA tabs X l (runEs G es)) : SE tabs X x (runE G (.lst es)) := fun B hB => by
  simp only [okE] at h
  cases e : asLst x with
  | none => rw [e] at h; cases h
  | some l =>
    rw [e] at h
    obtain ⟨p, rfl⟩ := asLst_some e
    refine (pe_lst (ih l h B hB)).imp fun σ H Q ⟨ρ, tt, vs, r, ρ', hR, hl, hF, hQ⟩ => ?_
    simp only [runE] at hF
    obtain ⟨⟨rs, ρ1⟩, g1, hF⟩ := Res.bind_ok hF
    by_cases hz : lineOk rs.length = true
    · rw [if_pos hz] at hF
      cases hF
      refine ⟨ρ, tt, vs, rs, ρ1, hR, hl, g1, fun us H1 hu R1 => ?_⟩
      have e1 : (ρ1 ++ tt).length = (σ ++ vs).length := by have a := hR.len; have b := R1.len; simp at a b ⊢; omega
      obtain ⟨q0, q1⟩ := R1.takeAll e1
      exact ⟨by rw [hu]; exact lineOk_iff hz, fin_lst q0 q1 hQ⟩
    · rw [if_neg hz] at hF; cases hF

/-! ### places -/
theorem plainIx {b : Expr} (h : isSlice b = false) : PlainIx b := fun o i => by
  cases b <;> first | rfl | (simp [isSlice] at h)
theorem map_bind (o : Option D) (ρ : Env) : ((Res.of (o.map Rv.val)).bind fun r => .ok (r, ρ) : Res (Rv × Env)) = (Res.of o).bind fun r => .ok (.val r, ρ) := by cases o <;> rfl
theorem snd_idx (o : XOk gi G tabs N sc ts k X) {a b : E} {x : Expr} (h : okE gi N sc (.idx a b) x = true) (iha : ∀ y, okE gi N sc a y = true → SE tabs X y (runE G a)) (ihb : ∀ y, okE gi N sc b y = true → SE tabs X y (runE G b)) : SE tabs X x (runE G (.idx a b)) := fun B hB => by
  simp only [okE] at h
  cases e : asSub x with
  | none => rw [e] at h; cases h
  | some z =>
    obtain ⟨l, r⟩ := z
    rw [e] at h
    simp only [Bool.and_eq_true] at h
    obtain ⟨p, rfl, hs⟩ := asSub_some e
    refine (pe_ix (ixd o.hu) (iha l h.1 B hB) (ihb r h.2 B hB) (plainIx hs)).imp fun σ H Q q => ?_
    refine read2 (g := fun a b => (dIdx a b).map .val) ?_
    obtain ⟨ρ, tt, vs, r, ρ', hR, hl, hF, hQ⟩ := q
    refine ⟨ρ, tt, vs, r, ρ', hR, hl, ?_, hQ⟩
    simp only [runE] at hF
    simp only [map_bind]
    exact hF
theorem R.read {K : PySem.W.Frag} {B : Bs} {ρ : Env} {tt : List Sl} {σ vs : List (Option V)} {H : Hp} {i : Nat} {c : D} (hR : R K B (ρ ++ tt) (σ ++ vs) H) (hl : ρ.length = σ.length) (h : (ρ.at i).d? = some c) :
    ∃ v, σ[i]? = some (some v) ∧ Ra K (Mt B.Z (ρ ++ tt) (σ ++ vs)) H v c := by
  cases e : ρ.at i with
  | no => rw [e] at h; cases h
  | val d =>
    rw [e] at h; cases h
    have g := at_some e (by intro z; cases z)
    obtain ⟨v, h1, h2⟩ := hR.val i _ (getL g)
    have hi := lt_of_get g
    rw [get_left (by omega)] at h1
    exact ⟨v, h1, .rp h2⟩
  | own d =>
    rw [e] at h; cases h
    have g := at_some e (by intro z; cases z)
    obtain ⟨v, h1, h2, _⟩ := hR.own i _ (getL g)
    have hi := lt_of_get g
    rw [get_left (by omega)] at h1
    exact ⟨_, h1, .own rfl h2⟩
  | ref d =>
    rw [e] at h; cases h
    have g := at_some e (by intro z; cases z)
    obtain ⟨v, _, h1, h2⟩ := hR.ref i _ (getL g)
    have hi := lt_of_get g
    rw [get_left (by omega)] at h1
    exact ⟨_, h1, .own rfl h2⟩
theorem snd_idv (o : XOk gi G tabs N sc ts k X) {i : Nat} {b : E} {x : Expr} (h : okE gi N sc (.idv i b) x = true) (ihb : ∀ y, okE gi N sc b y = true → SE tabs X y (runE G b)) : SE tabs X x (runE G (.idv i b)) := fun B hB => by
  simp only [okE] at h
  cases e : asSub x with
  | none => rw [e] at h; cases h
  | some z =>
    obtain ⟨l, r⟩ := z
    rw [e] at h
    simp only [Bool.and_eq_true] at h
    obtain ⟨p, rfl, hs⟩ := asSub_some e
    refine (pe_ix (ixd o.hu) (o.var h.1) (ihb r h.2 B hB) (plainIx hs)).imp fun σ H Q ⟨ρ, tt, vs, r, ρ', hR, hl, hF, hQ⟩ => ?_
    simp only [runE] at hF
    obtain ⟨c0, g0, hF⟩ := Res.bind_ok hF
    obtain ⟨⟨rb, ρ1⟩, g1, hF⟩ := Res.bind_ok hF
    obtain ⟨c, g2, hF⟩ := Res.bind_ok hF
    obtain ⟨d, g3, hF⟩ := Res.bind_ok hF
    cases hF
    obtain ⟨v, hv, _⟩ := hR.read hl (Res.of_ok g0)
    refine ⟨v, hv, ρ, tt, vs, rb, ρ1, hR, hl, g1, fun y H1 R1 => ?_⟩
    obtain ⟨q0, q1⟩ := R1.take1
    have l1 : ρ1.length = σ.length := by have a := hR.len; have b := q0.len; simp at a b; omega
    obtain ⟨v', hv', hc⟩ := q0.read l1 (Res.of_ok g2)
    rw [hv] at hv'; cases hv'
    exact ⟨B, _, _, _, _, _, q0, hc, .rp q1, by show (dIdx c rb.d).map Rv.val = _; rw [show dIdx c rb.d = some d from Res.of_ok g3]; rfl, hQ⟩
def tPt (K : PySem.W.Frag) (B : Bs) (F : Env → Res (Option Int × Env)) : TO := fun σ H Q => ∃ (ρ : Env) (ts : List Sl) (vs : List (Option V)) (r : Option Int) (ρ' : Env),
  R K B (ρ ++ ts) (σ ++ vs) H ∧ ρ.length = σ.length ∧ F ρ = .ok (r, ρ') ∧ ∀ H', R K B (ρ' ++ ts) (σ ++ vs) H' → Q r H'
def runP (G : Glo) (lo : E) (ρ : Env) : Res (Option Int × Env) := if lo.isNop then .ok (none, ρ) else (runE G lo ρ).bind fun q => (Res.of (dPart q.1.d)).bind fun o => .ok (o, q.2)
theorem snd_part {e : E} {m : Option Expr} (h : (match m with | none => e.isNop | some y => !e.isNop && okE gi N sc e y) = true) (ih : ∀ y, okE gi N sc e y = true → SE tabs X y (runE G e)) (B : Bs) (hB : B.tabs = tabs) : PO X m (fun σ H Q => tPt X.K B (runP G e) σ H Q) := by
  cases m with
  | none =>
    have h : e.isNop = true := h
    refine ⟨fun pins s σ H Q I ⟨ρ, tt, vs, r, ρ', hR, hl, hF, hQ⟩ => ?_⟩
    unfold runP at hF
    rw [if_pos h] at hF
    cases hF
    exact (po_none (X := X)).run pins s σ H Q I (hQ H hR)
  | some y =>
    have h : (!e.isNop && okE gi N sc e y) = true := h
    rw [Bool.and_eq_true] at h
    have hn : e.isNop = false := by simpa using h.1
    refine ⟨fun pins s σ H Q I ⟨ρ, tt, vs, r, ρ', hR, hl, hF, hQ⟩ => ?_⟩
    unfold runP at hF
    rw [if_neg (by simp [hn])] at hF
    obtain ⟨⟨rb, ρ1⟩, g1, hF⟩ := Res.bind_ok hF
    obtain ⟨oo, g2, hF⟩ := Res.bind_ok hF
    have g2 := Res.of_ok g2
    cases hF
    refine (po_some (ih y h.2 B hB)).run pins s σ H Q I ⟨ρ, tt, vs, rb, ρ1, hR, hl, g1, fun v H1 R1 => ?_⟩
    obtain ⟨q0, q1⟩ := R1.take1
    cases q : rb.d with
    | int i =>
      rw [show (rb, ρ1).1.d = rb.d from rfl, q] at g2
      cases g2
      rw [q] at q1
      exact ⟨i, q1.intV, hQ H1 q0⟩
    | _ =>
      rw [show (rb, ρ1).1.d = rb.d from rfl, q] at g2
      cases g2
theorem snd_sli {a lo hi : E} {x : Expr} (h : okE gi N sc (.sli a lo hi) x = true) (iha : ∀ y, okE gi N sc a y = true → SE tabs X y (runE G a)) (ihl : ∀ y, okE gi N sc lo y = true → SE tabs X y (runE G lo)) (ihh : ∀ y, okE gi N sc hi y = true → SE tabs X y (runE G hi)) : SE tabs X x (runE G (.sli a lo hi)) := fun B hB => by
  simp only [okE] at h
  cases e : asSli x with
  | none => rw [e] at h; cases h
  | some z =>
    obtain ⟨l, m, r⟩ := z
    rw [e] at h
    simp only [Bool.and_eq_true] at h
    obtain ⟨p2, p, rfl⟩ := asSli_some e
    refine (pe_slice sld (iha l h.1.1 B hB) (snd_part h.1.2 ihl B hB) (snd_part h.2 ihh B hB)).imp fun σ H Q ⟨ρ, tt, vs, r, ρ', hR, hl, hF, hQ⟩ => ?_
    simp only [runE] at hF
    obtain ⟨⟨ra, ρ1⟩, g1, hF⟩ := Res.bind_ok hF
    obtain ⟨⟨o1, ρ2⟩, g2, hF⟩ := Res.bind_ok hF
    obtain ⟨⟨o2, ρ3⟩, g3, hF⟩ := Res.bind_ok hF
    obtain ⟨r', g4, hF⟩ := Res.bind_ok hF
    have g4 := Res.of_ok g4
    cases hF
    refine ⟨ρ, tt, vs, ra, ρ1, hR, hl, g1, fun x1 H1 R1 => ?_⟩
    have l1 : ρ1.length = σ.length := by have a := hR.len; have b := R1.len; simp at a b; omega
    refine ⟨ρ1, tt ++ [ra.sl], vs ++ [some x1], o1, ρ2, by simpa using R1, l1, g2, fun H2 R2 => ?_⟩
    have l2 : ρ2.length = σ.length := by have a := hR.len; have b := R2.len; simp at a b; omega
    refine ⟨ρ2, tt ++ [ra.sl], vs ++ [some x1], o2, ρ3, R2, l2, g3, fun H3 R3 => ?_⟩
    have R3' : R X.K B ((ρ3 ++ tt) ++ [ra.sl]) ((σ ++ vs) ++ [some x1]) H3 := by simpa using R3
    obtain ⟨q0, q1⟩ := R3'.take1
    exact ⟨B, _, _, _, _, q0, .rp q1, g4, hQ⟩
theorem blt_len : (("len" : String) : Str) ∈ bltNames := by decide +kernel
theorem snd_lenv (o : XOk gi G tabs N sc ts k X) {i : Nat} {x : Expr} (h : okE gi N sc (.lenv i) x = true) : SE tabs X x (runE G (.lenv i)) := fun B hB => by
  simp only [okE] at h
  split at h
  · rename_i f y e
    simp only [Bool.and_eq_true, decide_eq_true_eq] at h
    obtain ⟨p, pos, rfl⟩ := asCall_some e
    obtain ⟨⟨rfl, h1⟩, h2⟩ := h
    have hy : isStar y = false := by
      unfold okV at h2
      cases q : asName y with
      | none => rw [q] at h2; cases h2
      | some z => obtain ⟨_, rfl⟩ := asName_some q; rfl
    refine (pe_callB cad_len (o.gl h1) (o.blt _ blt_len) PySem.boot_len (pa_cons (o.var h2) pa_nil (star_of hy)) (he := star_of hy)).imp fun σ H Q ⟨ρ, tt, vs, r, ρ', hR, hl, hF, hQ⟩ => ?_
    simp only [runE] at hF
    obtain ⟨c, g0, hF⟩ := Res.bind_ok hF
    obtain ⟨r', g1, hF⟩ := Res.bind_ok hF
    cases hF
    obtain ⟨v, hv, hc⟩ := hR.read hl (Res.of_ok g0)
    exact ⟨v, hv, B, _, _, [c], _, hR, .cons hc .nil, Res.of_ok g1, hQ⟩
  · cases h
theorem okV_set {i : Nat} {x : Expr} (h : okV N sc i x = true) : isSetE x = false ∧ isStar x = false := by
  unfold okV at h
  cases q : asName x with
  | none => rw [q] at h; cases h
  | some z => obtain ⟨_, rfl⟩ := asName_some q; exact ⟨rfl, rfl⟩
theorem snd_inv (o : XOk gi G tabs N sc ts k X) {op : Cop} {a : E} {i : Nat} {x : Expr} (h : okE gi N sc (.inv op a i) x = true) (iha : ∀ y, okE gi N sc a y = true → SE tabs X y (runE G a)) : SE tabs X x (runE G (.inv op a i)) ∧ ST tabs X x (runE G (.inv op a i)) := by
  simp only [okE] at h
  split at h
  · rename_i l oo r e
    simp only [Bool.and_eq_true, decide_eq_true_eq] at h
    obtain ⟨p, rfl⟩ := asCmp_some e
    obtain ⟨⟨rfl, h1⟩, h2⟩ := h
    have hr : ∀ B, B.tabs = tabs → ∀ σ H Q, tE X.K B (runE G (.inv op a i)) σ H Q → tOp (opD X.K fun a b => cb (dCmp op a b)) (tE X.K B (runE G a)) (tVar i) σ H Q := fun B hB σ H Q ⟨ρ, tt, vs, r, ρ', hR, hl, hF, hQ⟩ => by
      simp only [runE] at hF
      obtain ⟨⟨ra, ρ1⟩, g1, hF⟩ := Res.bind_ok hF
      obtain ⟨c, g2, hF⟩ := Res.bind_ok hF
      obtain ⟨kk, g3, hF⟩ := Res.bind_ok hF
      cases hF
      refine ⟨ρ, tt, vs, ra, ρ1, hR, hl, g1, fun x1 H1 R1 => ?_⟩
      obtain ⟨q0, q1⟩ := R1.take1
      have l1 : ρ1.length = σ.length := by have a := hR.len; have b := R1.len; simp at a b; omega
      obtain ⟨v, hv, hc⟩ := q0.read l1 (Res.of_ok g2)
      exact ⟨v, hv, B, _, _, _, _, _, q0, .rp q1, hc, by show cb (dCmp op ra.d c) = _; rw [show dCmp op ra.d c = some kk from Res.of_ok g3]; rfl, hQ⟩
    refine ⟨fun B hB => (pe_cmpR (opd_cmp o.hu op) (iha l h1 B hB) (o.var h2) (notset (okV_set h2).1)).imp (hr B hB), fun B hB => (pt_cmpR (opd_cmp o.hu op) (iha l h1 B hB) (o.var h2) (notset (okV_set h2).1)).imp fun σ H Q ⟨ρ, tt, vs, r, ρ', bb, hR, hl, hF, hb, hQ⟩ => ?_⟩
    refine hr B hB σ H _ ⟨ρ, tt, vs, r, ρ', hR, hl, hF, fun v H' R1 => ?_⟩
    obtain ⟨q0, q1⟩ := R1.take1
    simp only [runE] at hF
    obtain ⟨p1, g1, hF⟩ := Res.bind_ok hF
    obtain ⟨p2, g2, hF⟩ := Res.bind_ok hF
    obtain ⟨c, g3, hF⟩ := Res.bind_ok hF
    cases hF
    cases hb
    exact ⟨_, q1.blV, hQ H' q0⟩
  · cases h
theorem snd_cmv (o : XOk gi G tabs N sc ts k X) {op : Cop} {a : E} {i : Nat} {x : Expr} (h : okE gi N sc (.cmv op i a) x = true) (iha : ∀ y, okE gi N sc a y = true → SE tabs X y (runE G a)) : SE tabs X x (runE G (.cmv op i a)) ∧ ST tabs X x (runE G (.cmv op i a)) := by
  simp only [okE] at h
  split at h
  · rename_i l oo r e
    simp only [Bool.and_eq_true, decide_eq_true_eq, Bool.not_eq_true'] at h
    obtain ⟨p, rfl⟩ := asCmp_some e
    obtain ⟨⟨⟨rfl, h0⟩, h1⟩, h2⟩ := h
    have hr : ∀ B, B.tabs = tabs → ∀ σ H Q, tE X.K B (runE G (.cmv op i a)) σ H Q → tOp (opD X.K fun a b => cb (dCmp op a b)) (tVar i) (tE X.K B (runE G a)) σ H Q := fun B hB σ H Q ⟨ρ, tt, vs, r, ρ', hR, hl, hF, hQ⟩ => by
      simp only [runE] at hF
      obtain ⟨c0, g0, hF⟩ := Res.bind_ok hF
      obtain ⟨⟨ra, ρ1⟩, g1, hF⟩ := Res.bind_ok hF
      obtain ⟨c, g2, hF⟩ := Res.bind_ok hF
      obtain ⟨kk, g3, hF⟩ := Res.bind_ok hF
      cases hF
      obtain ⟨v0, hv0, _⟩ := hR.read hl (Res.of_ok g0)
      refine ⟨v0, hv0, ρ, tt, vs, ra, ρ1, hR, hl, g1, fun x1 H1 R1 => ?_⟩
      obtain ⟨q0, q1⟩ := R1.take1
      have l1 : ρ1.length = σ.length := by have a := hR.len; have b := R1.len; simp at a b; omega
      obtain ⟨v, hv, hc⟩ := q0.read l1 (Res.of_ok g2)
      rw [hv0] at hv; cases hv
      exact ⟨B, _, _, _, _, _, q0, hc, .rp q1, by show cb (dCmp op c ra.d) = _; rw [show dCmp op c ra.d = some kk from Res.of_ok g3]; rfl, hQ⟩
    refine ⟨fun B hB => (pe_cmpR (opd_cmp o.hu op) (o.var h1) (iha r h2 B hB) (notset h0)).imp (hr B hB), fun B hB => (pt_cmpR (opd_cmp o.hu op) (o.var h1) (iha r h2 B hB) (notset h0)).imp fun σ H Q ⟨ρ, tt, vs, r, ρ', bb, hR, hl, hF, hb, hQ⟩ => ?_⟩
    refine hr B hB σ H _ ⟨ρ, tt, vs, r, ρ', hR, hl, hF, fun v H' R1 => ?_⟩
    obtain ⟨q0, q1⟩ := R1.take1
    simp only [runE] at hF
    obtain ⟨p0, g0, hF⟩ := Res.bind_ok hF
    obtain ⟨p1, g1, hF⟩ := Res.bind_ok hF
    obtain ⟨p2, g2, hF⟩ := Res.bind_ok hF
    obtain ⟨c, g3, hF⟩ := Res.bind_ok hF
    cases hF
    cases hb
    exact ⟨_, q1.blV, hQ H' q0⟩
  · cases h

/-! ### calls of built-in functions -/
theorem blt_bi : ∀ b : Bi, b ≠ .join → ((biN b : String) : Str) ∈ bltNames
  | .len, _ => by decide +kernel | .abs, _ => by decide +kernel | .int, _ => by decide +kernel | .min2, _ => by decide +kernel | .max2, _ => by decide +kernel | .tuple, _ => by decide +kernel | .list, _ => by decide +kernel | .sorted, _ => by decide +kernel | .sum, _ => by decide +kernel | .join, h => (h rfl).elim
theorem bltN {x : Str} (h : x ∈ bltNames) : x ≠ ("__name__" : Str) ∧ (x == ("__debug__" : Str)) = false := by
  have all : ∀ x ∈ bltNames, x ≠ ("__name__" : Str) ∧ (x == ("__debug__" : Str)) = false := by decide +kernel
  exact all x h
theorem snd_bi (o : XOk gi G tabs N sc ts k X) {b : Bi} {es : Es} {x : Expr} (h : okE gi N sc (.bi b es) x = true) (ih : ∀ l, okEs gi N sc es l = true → SA tabs X l (runEs G es)) : SE tabs X x (runE G (.bi b es)) := fun B hB => by
  simp only [okE] at h
  cases e : asCall x with
  | none => rw [e] at h; cases h
  | some z =>
    obtain ⟨f, l⟩ := z
    rw [e] at h
    simp only [Bool.and_eq_true, decide_eq_true_eq, Bool.not_eq_true'] at h
    obtain ⟨p, pos, rfl⟩ := asCall_some e
    obtain ⟨⟨⟨⟨hb, rfl⟩, h1⟩, h2⟩, h3⟩ := h
    cases l with
    | nil => simp at h2
    | cons y l =>
      have hs : isStar y = false := by
        cases es with
        | nil => simp [okEs] at h3
        | cons e' es' =>
          simp only [okEs, Bool.and_eq_true, Bool.not_eq_true'] at h3
          exact h3.1.1
      have hst : ∀ pos, (backTo pos (starEach l X.env)).any (·.1) = false := fun pos => by
        cases es with
        | nil => simp [okEs] at h3
        | cons e' es' =>
          simp only [okEs, Bool.and_eq_true] at h3
          exact okEs_star h3.2
      obtain ⟨n1, n2⟩ := bltN (blt_bi b hb)
      have rd : ∀ σ H Q, tE X.K B (runE G (.bi b es)) σ H Q → tCB (arD X.K (dBi b)) (tAs X.K B (runEs G es)) σ H Q := fun σ H Q q => by
        refine readA ?_
        simpa only [runE] using q
      have bb := biB b hb
      have cc := cad (X := X) o.hu o.calm b hb
      have bl := o.blt _ (blt_bi b hb)
      cases b with
      | int => exact (pe_callTy cc (o.gl h1) bl bb (ih _ h3 B hB) n1 n2 (star_of hs) (hst _)).imp rd
      | tuple => exact (pe_callTy cc (o.gl h1) bl bb (ih _ h3 B hB) n1 n2 (star_of hs) (hst _)).imp rd
      | list => exact (pe_callTy cc (o.gl h1) bl bb (ih _ h3 B hB) n1 n2 (star_of hs) (hst _)).imp rd
      | join => exact (hb rfl).elim
      | _ => exact (pe_callB cc (o.gl h1) bl bb (ih _ h3 B hB) n1 n2 (star_of hs) (hst _)).imp rd
theorem strs_of {K : PySem.W.Frag} {M : Addr → Prop} {H : Hp} : ∀ {ds : List D} {xs : List V} {ss : List (List Nat)}, dStrs ds = some ss → RpA K M H xs ds → xs = (ss.map mkS).map V.str
  | [], _, ns, h, .nil => by cases h; rfl
  | .str i :: ds, _, ns, h, .cons h1 h2 => by
    simp only [dStrs] at h
    cases q : dStrs ds with
    | none => rw [q] at h; cases h
    | some ms =>
      rw [q] at h
      cases h
      rw [h1.strV, strs_of q h2]; rfl
  | .non :: _, _, _, h, _ => by cases h
  | .bl _ :: _, _, _, h, _ => by cases h
  | .int _ :: _, _, _, h, _ => by cases h
  | .lst _ :: _, _, _, h, _ => by cases h
  | .tup _ :: _, _, _, h, _ => by cases h
  | .dct _ :: _, _, _, h, _ => by cases h
theorem sum_len : ∀ ss : List (List Nat), ((ss.map mkS).map (·.length)).sum = sumLen ss
  | [] => rfl
  | l :: r => by
    rw [List.map_cons, List.map_cons, List.sum_cons, sum_len r, mkS_len]; rfl
theorem mkS_app (a b : List Nat) : mkS a ++ mkS b = mkS (a ++ b) := by
  show (⟨a.toArray ++ b.toArray⟩ : Str) = ⟨(a ++ b).toArray⟩
  simp
theorem join_flat : ∀ ss : List (List Nat), Str.join (mkS []) (ss.map mkS) = mkS ss.flatten
  | [] => rfl
  | [l] => by show mkS l = mkS [l].flatten; simp
  | l :: m :: r => by
    have ih := join_flat (m :: r)
    show mkS l ++ mkS [] ++ Str.join (mkS []) ((m :: r).map mkS) = _
    rw [ih, mkS_app, mkS_app, List.append_nil]; rfl
theorem snd_joi {a b : E} {x : Expr} (h : okE gi N sc (.joi a b) x = true) (iha : ∀ y, okE gi N sc a y = true → SE tabs X y (runE G a)) (ihb : ∀ y, okE gi N sc b y = true → SE tabs X y (runE G b)) : SE tabs X x (runE G (.joi a b)) := fun B hB => by
  simp only [okE] at h
  split at h
  · rename_i oo m y e
    simp only [Bool.and_eq_true, decide_eq_true_eq, Bool.not_eq_true'] at h
    obtain ⟨apos, pos, rfl, hl1, hl2⟩ := asMeth_some e
    obtain ⟨⟨⟨rfl, hs⟩, h1⟩, h2⟩ := h
    have hbase : attributeBase oo ("join" : Str) X.env (eval oo X.env) = eval oo X.env := by
      cases oo <;> first | rfl | (simp [isCallE] at hl2)
    refine (pe_join (iha oo h1 B hB) (ihb y h2 B hB) (star_of hs) hbase hl1).imp fun σ H Q ⟨ρ, tt, vs, r, ρ', hR, hl, hF, hQ⟩ => ?_
    simp only [runE] at hF
    obtain ⟨⟨ra, ρ1⟩, g1, hF⟩ := Res.bind_ok hF
    obtain ⟨⟨rb, ρ2⟩, g2, hF⟩ := Res.bind_ok hF
    obtain ⟨d, g3, hF⟩ := Res.bind_ok hF
    have g3 : joinD ra.d rb.d = some d := Res.of_ok g3
    cases hF
    refine ⟨ρ, tt, vs, ra, ρ1, hR, hl, g1, fun x1 H1 R1 => ?_⟩
    have l1 : ρ1.length = σ.length := by have a := hR.len; have b := R1.len; simp at a b; omega
    obtain ⟨_, q1⟩ := R1.take1
    cases qa : ra.d with
    | str la =>
      rw [qa] at g3 q1
      cases la with
      | cons _ _ => cases g3
      | nil =>
        cases qb : rb.d with
        | lst ds =>
          rw [qb] at g3
          simp only [joinD] at g3
          cases qs : dStrs ds with
          | none => rw [qs] at g3; cases g3
          | some ss =>
            rw [qs] at g3
            by_cases hz : lineOk (sumLen ss) = true
            · simp only [hz, if_true] at g3
              cases g3
              refine ⟨⟨_, q1.strV⟩, ρ1, tt ++ [ra.sl], vs ++ [some x1], rb, ρ2, by simpa using R1, l1, g2, fun x2 H2 R2 => ?_⟩
              have R2' : R X.K B ((ρ2 ++ tt) ++ [ra.sl] ++ [rb.sl]) ((σ ++ vs) ++ [some x1] ++ [some x2]) H2 := by simpa using R2
              obtain ⟨q0, q1', q2⟩ := R2'.take2
              rw [qb] at q2
              obtain ⟨pp, xs, rfl, k1, k2, k3⟩ := q2.lstV
              have k4 := strs_of qs k3
              subst k4
              refine ⟨mkS [], pp, ss.map mkS, q1.strV, rfl, .inl (.inl (.inl k1)), ?_, ?_⟩
              · rw [sum_len, show (mkS []).length = 0 from rfl, Nat.mul_zero, Nat.add_zero]
                exact of_decide_eq_true hz
              · rw [TL.join_eq, join_flat]
                exact hQ _ H2 (q0.push_val (.str _))
            · simp only [hz] at g3; cases g3
        | tup ds =>
          rw [qb] at g3
          simp only [joinD] at g3
          cases qs : dStrs ds with
          | none => rw [qs] at g3; cases g3
          | some ss =>
            rw [qs] at g3
            by_cases hz : lineOk (sumLen ss) = true
            · simp only [hz, if_true] at g3
              cases g3
              refine ⟨⟨_, q1.strV⟩, ρ1, tt ++ [ra.sl], vs ++ [some x1], rb, ρ2, by simpa using R1, l1, g2, fun x2 H2 R2 => ?_⟩
              have R2' : R X.K B ((ρ2 ++ tt) ++ [ra.sl] ++ [rb.sl]) ((σ ++ vs) ++ [some x1] ++ [some x2]) H2 := by simpa using R2
              obtain ⟨q0, q1', q2⟩ := R2'.take2
              rw [qb] at q2
              obtain ⟨pp, xs, rfl, k1, k3⟩ := q2.tupV
              have k4 := strs_of qs k3
              subst k4
              refine ⟨mkS [], pp, ss.map mkS, q1.strV, rfl, .inr k1, ?_, ?_⟩
              · rw [sum_len, show (mkS []).length = 0 from rfl, Nat.mul_zero, Nat.add_zero]
                exact of_decide_eq_true hz
              · rw [TL.join_eq, join_flat]
                exact hQ _ H2 (q0.push_val (.str _))
            · simp only [hz] at g3; cases g3
        | _ => rw [qb] at g3; cases g3
    | _ => rw [qa] at g3; cases g3
  · cases h
end
end Gw

set_option Elab.async false
set_option linter.all false
set_option maxRecDepth 100000
set_option maxHeartbeats 2000000
/-! The value layer, part 10: calls of defs. -/
namespace Gw
open PySem L2
section
variable {gi : GI} {G : Glo} {tabs : List Addr} {N : List Str} {sc ts : Scope} {k : Nat} {X : Cx}
theorem get_map {α β : Type} {f : α → β} {l : List α} {j : Nat} {y : β} (h : (l.map f)[j]? = some y) : ∃ x, l[j]? = some x ∧ f x = y := by
  rw [List.getElem?_map] at h
  cases e : l[j]? with
  | none => rw [e] at h; cases h
  | some x => rw [e] at h; exact ⟨x, rfl, Option.some.inj h⟩
theorem RpA.at {K : PySem.W.Frag} {M : Addr → Prop} {H : Hp} {vs : List V} {ds : List D} (h : RpA K M H vs ds) {j : Nat} {d : D} (e : ds[j]? = some d) : ∃ v, (vs.map some)[j]? = some (some v) ∧ Rp K M H v d := by
  obtain ⟨v, h1, h2⟩ := h.get e
  exact ⟨v, by rw [List.getElem?_map, h1]; rfl, h2⟩
/-- the callee's own start: values alone -/
theorem R.entry {K : PySem.W.Frag} {B : Bs} {ss : List Sl} {vs : List (Option V)} {H : Hp} (hR : R K B ss vs H) {us : List V} {ds : List D} (h : RpA K (Mt B.Z ss vs) H us ds) :
    R K ⟨H, none, B.tabs, Mt B.Z ss vs, fun _ => none⟩ (ds.map Sl.val) (us.map some) H := by
  have mm : ∀ a, Mt (Mt B.Z ss vs) (ds.map Sl.val) (us.map some) a → Mt B.Z ss vs a := fun a m => m.elim (fun h => h) fun ⟨j, s, h1, h2, _⟩ => by
    obtain ⟨d, _, rfl⟩ := get_map h1
    exact h2.elim
  refine ⟨by simp [h.len], fun j d e => ?_, fun j d e => ?_, fun j d e => ?_, fun j a e => (by cases j <;> cases e), fun i j s t a h1 _ o1 => ?_, ⟨fun a o h _ _ => h, fun a ps h => ⟨ps, h⟩⟩, hR.tab, fun a ha => hR.mt_some ha, fun j s a h1 o1 => ?_, fun a o h => by cases h⟩
  · obtain ⟨d', h1, h2⟩ := get_map e
    cases h2
    obtain ⟨v, h3, h4⟩ := h.at h1
    exact ⟨v, h3, rp_congr mm h4⟩
  · obtain ⟨d', _, h2⟩ := get_map e; cases h2
  · obtain ⟨d', _, h2⟩ := get_map e; cases h2
  · obtain ⟨d', _, rfl⟩ := get_map h1; exact o1.elim
  · obtain ⟨d', _, rfl⟩ := get_map h1; exact o1.elim
/-- back in the caller -/
theorem R.back {K : PySem.W.Frag} {B : Bs} {ss : List Sl} {vs : List (Option V)} {H H' : Hp} (hR : R K B ss vs H) {ps : List Sl} {us : List (Option V)} {d : Rv} {v : V}
    (h : R K ⟨H, none, B.tabs, Mt B.Z ss vs, fun _ => none⟩ (ps ++ [d.sl]) (us ++ [some v]) H') : R K B (ss ++ [d.sl]) (vs ++ [some v]) H' := by
  have g : Grow B.tabs H H' := ⟨fun a o q n => h.ext.stay a o q (fun ⟨j, e⟩ => by cases j <;> cases e) n, fun a ps q => h.ext.tbl a ps q, fun a ha _ => h.tab a ha⟩
  have hl : ps.length = us.length := by have := h.len; simp at this; exact this
  cases d with
  | val d =>
    refine (hR.grow g).push_val ?_
    obtain ⟨w, h1, h2⟩ := h.val ps.length d (getEnd _ _)
    rw [hl, getEnd] at h1
    cases h1
    exact rp_congr (fun a m => .inl m) h2
  | own d =>
    obtain ⟨a, h1, h2, h3⟩ := h.own ps.length d (getEnd _ _)
    have h1' := h1
    rw [hl, getEnd] at h1
    cases h1
    refine hR.push_own2 h3 g (own_congr (fun b m => ?_) h2)
    rcases (mt_push_own hR.len).mp m with m | rfl
    · exact .inl m
    · exact .inr ⟨ps.length, _, getEnd _ _, trivial, h1'⟩
theorem snd_cal (o : XOk gi G tabs N sc ts k X) {f : Nat} {es : Es} {x : Expr} (h : okE gi N sc (.cal f es) x = true) (ih : ∀ l, okEs gi N sc es l = true → SA tabs X l (runEs G es)) : SE tabs X x (runE G (.cal f es)) := fun B hB => by
  simp only [okE] at h
  cases e : asCall x with
  | none => rw [e] at h; cases h
  | some z =>
    obtain ⟨g, l⟩ := z
    rw [e] at h
    simp only [Bool.and_eq_true, decide_eq_true_eq, Bool.not_eq_true'] at h
    obtain ⟨p, pos, rfl⟩ := asCall_some e
    obtain ⟨⟨⟨hf, h1⟩, h2⟩, h3⟩ := h
    cases l with
    | nil => simp at h2
    | cons y l =>
      have hs : isStar y = false := by
        cases es with
        | nil => simp [okEs] at h3
        | cons e' es' =>
          simp only [okEs, Bool.and_eq_true, Bool.not_eq_true'] at h3
          exact h3.1.1
      have hst : ∀ pos, (backTo pos (starEach l X.env)).any (·.1) = false := fun pos => by
        cases es with
        | nil => simp [okEs] at h3
        | cons e' es' =>
          simp only [okEs, Bool.and_eq_true] at h3
          exact okEs_star h3.2
      obtain ⟨db, a, fd, ps, m1, m2, m3, m4⟩ := o.fn f g hf
      refine (pe_call m4 o.room (o.gl h1) m1 m2 m3 .nil pass0 (ih _ h3 B hB) db (star_of hs) (hst _)).imp fun σ H Q ⟨ρ, tt, vs, r, ρ', hR, hl, hF, hQ⟩ => ?_
      simp only [runE] at hF
      obtain ⟨⟨rs, ρ1⟩, g1, hF⟩ := Res.bind_ok hF
      obtain ⟨⟨d, ps'⟩, g2, hF⟩ := Res.bind_ok hF
      cases hF
      refine ⟨ρ, tt, vs, rs, ρ1, hR, hl, g1, fun us H1 hu R1 => ?_⟩
      have e1 : (ρ1 ++ tt).length = (σ ++ vs).length := by have a := hR.len; have b := R1.len; simp at a b ⊢; omega
      obtain ⟨q0, q1⟩ := R1.takeAll e1
      show spF X.K tabs (G.fn f) (us ++ []) H1 Q E0
      rw [List.append_nil]
      refine ⟨⟨H1, none, B.tabs, Mt B.Z (ρ1 ++ tt) (σ ++ vs), fun _ => none⟩, (rs.map Rv.d).map Sl.val, d, ps', rfl, hB, q0.entry q1, ?_, ?_, fun v H' R' => ?_⟩
      · intro s hs d' e
        obtain ⟨d2, _, rfl⟩ := List.mem_map.mp hs
        cases e
      · rw [List.map_map]; exact g2
      · exact hQ v H' (q0.back R')

/-! ### one container by reference -/
theorem snd_car (o : XOk gi G tabs N sc ts k X) {f i : Nat} {es : Es} {x : Expr} (h : okE gi N sc (.car f i es) x = true) (ih : ∀ l, okEs gi N sc es l = true → SA tabs X l (runEs G es)) : SE tabs X x (runE G (.car f i es)) := fun B hB => by
  simp only [okE] at h
  split at h
  · rename_i g y l e
    simp only [Bool.and_eq_true, decide_eq_true_eq] at h
    obtain ⟨p, pos, rfl⟩ := asCall_some e
    obtain ⟨⟨⟨hf, h1⟩, h2⟩, h3⟩ := h
    have hs : isStar y = false := (okV_set h2).2
    obtain ⟨db, a0, fd, ps, m1, m2, m3, m4⟩ := o.fn f g hf
    refine (pe_call m4 o.room (o.gl h1) m1 m2 m3 .nil pass0 (pa_cons (o.var h2) (ih _ h3 B hB) (star_of hs)) db (star_of hs) (okEs_star h3)).imp fun σ H Q ⟨ρ, tt, vs, r, ρ', hR, hl, hF, hQ⟩ => ?_
    simp only [runE] at hF
    obtain ⟨c0, g0, hF⟩ := Res.bind_ok hF
    obtain ⟨⟨rs, ρ1⟩, g1, hF⟩ := Res.bind_ok hF
    obtain ⟨v0, hv0, _⟩ := hR.read hl (Res.of_ok g0)
    refine ⟨v0, hv0, ρ, tt, vs, rs, ρ1, hR, hl, g1, fun us H1 hu R1 => ?_⟩
    have e1 : (ρ1 ++ tt).length = (σ ++ vs).length := by have a := hR.len; have b := R1.len; simp at a b ⊢; omega
    have l1 : ρ1.length = σ.length := by have a := hR.len; simp at a e1; omega
    obtain ⟨q0, q1⟩ := R1.takeAll e1
    show spF X.K tabs (G.fn f) (v0 :: us ++ []) H1 Q E0
    rw [List.append_nil]
    -- the slot, its container
    have key : ∀ (s s2 : D → Sl) (c : D), (s = Sl.own ∨ s = Sl.ref) → ρ1.at i = s c → ∀ (d : Rv) (ps' : List Sl) (c' : D) (rest : List Sl), G.fn f (.ref c :: rs.map fun r => .val r.d) = .ok (d, ps') → ps' = .ref c' :: rest → r = .val d.d → ρ' = ρ1.set i (s c') →
        spF X.K tabs (G.fn f) (v0 :: us) H1 Q E0 := fun s s2 c hs hi d ps' c' rest hG hp hr hρ => by
      subst hr hρ
      have hne : s c ≠ .no := by rcases hs with rfl | rfl <;> (intro z; cases z)
      have gi1 := at_some hi hne
      have hilt := lt_of_get gi1
      obtain ⟨a, hva, hoa⟩ : ∃ a, (σ ++ vs)[i]? = some (some (.ref a)) ∧ OwnAt X.K (Mt B.Z (ρ1 ++ tt) (σ ++ vs)) H1 a c := by
        rcases hs with rfl | rfl
        · obtain ⟨a, k1, k2, _⟩ := q0.own i c (getL gi1); exact ⟨a, k1, k2⟩
        · obtain ⟨a, _, k1, k2⟩ := q0.ref i c (getL gi1); exact ⟨a, k1, k2⟩
      have hso : (s c).isOwn := by rcases hs with rfl | rfl <;> exact trivial
      have ev : v0 = .ref a := by
        rw [get_left (by omega), hv0] at hva
        cases hva; rfl
      subst ev
      have ma : Mt B.Z (ρ1 ++ tt) (σ ++ vs) a := .inr ⟨i, _, getL gi1, hso, hva⟩
      let Z' : Addr → Prop := fun b => Mt B.Z (ρ1 ++ tt) (σ ++ vs) b ∧ b ≠ a
      let B' : Bs := ⟨H1, some a, B.tabs, Z', fun _ => none⟩
      have mm : ∀ b, Mt Z' (Sl.ref c :: (rs.map Rv.d).map Sl.val) (some (V.ref a) :: us.map some) b → Mt B.Z (ρ1 ++ tt) (σ ++ vs) b := fun b m => m.elim (fun h => h.1) fun ⟨j, t, k1, k2, k3⟩ => by
        cases j with
        | zero => cases k3; exact ma
        | succ j =>
          obtain ⟨d', _, rfl⟩ := get_map (show ((rs.map Rv.d).map Sl.val)[j]? = some t from k1)
          exact k2.elim
      have RE : R X.K B' (Sl.ref c :: (rs.map Rv.d).map Sl.val) (some (V.ref a) :: us.map some) H1 := by
        refine ⟨by simp [hu], fun j d e => ?_, fun j d e => ?_, fun j d e => ?_, fun j b e => ?_, fun i1 j s1 t1 b k1 k2 o1 o2 _ _ => ?_, ⟨fun a o h _ _ => h, fun a ps h => ⟨ps, h⟩⟩, q0.tab, fun b hb => q0.mt_some hb.1, fun j s1 b k1 o1 k3 => ?_, fun a o h => by cases h⟩
        · cases j with
          | zero => cases e
          | succ j =>
            obtain ⟨d', k1, k2⟩ := get_map (show ((rs.map Rv.d).map Sl.val)[j]? = some (Sl.val d) from e)
            cases k2
            obtain ⟨v, k3, k4⟩ := q1.at k1
            exact ⟨v, k3, rp_congr mm k4⟩
        · cases j with
          | zero => cases e
          | succ j =>
            obtain ⟨d', k1, k2⟩ := get_map (show ((rs.map Rv.d).map Sl.val)[j]? = some (Sl.own d) from e)
            cases k2
        · cases j with
          | zero =>
            cases e
            exact ⟨a, rfl, rfl, own_congr mm hoa⟩
          | succ j =>
            obtain ⟨d', k1, k2⟩ := get_map (show ((rs.map Rv.d).map Sl.val)[j]? = some (Sl.ref d) from e)
            cases k2
        · cases j with
          | zero => exact ⟨c, rfl⟩
          | succ j => cases e
        · have z : ∀ {j : Nat} {t : Sl}, (Sl.ref c :: (rs.map Rv.d).map Sl.val)[j]? = some t → t.isOwn → j = 0 := fun {j t} k1 k2 => by
            cases j with
            | zero => rfl
            | succ j =>
              obtain ⟨d', _, rfl⟩ := get_map (show ((rs.map Rv.d).map Sl.val)[j]? = some t from k1)
              exact k2.elim
          rw [z k1 o1, z k2 o2]
        · cases j with
          | zero => cases k3; exact fun h => h.2 rfl
          | succ j =>
            obtain ⟨d', _, rfl⟩ := get_map (show ((rs.map Rv.d).map Sl.val)[j]? = some s1 from k1)
            exact o1.elim
      refine ⟨B', Sl.ref c :: (rs.map Rv.d).map Sl.val, d, ps', rfl, hB, RE, ?_, ?_, fun v H' R' => ?_⟩
      · intro s1 hs1 d' e
        rcases List.mem_cons.mp hs1 with rfl | hs1
        · cases e
        · obtain ⟨d2, _, rfl⟩ := List.mem_map.mp hs1
          cases e
      · rw [List.map_map]; exact hG
      · subst hp
        have R' := R'.frzTop
        have R' : R X.K B' (Sl.ref c' :: (rest.map onlyRef ++ [.val d.d])) (some (V.ref a) :: (us.map some ++ [some v])) H' := by simpa [onlyRef] using R'
        obtain ⟨a', ea, ev', hoa'⟩ := R'.ref 0 c' rfl
        cases ev'
        have nP : ∀ b, B'.P b → b = a := fun b ⟨j, e⟩ => by
          cases j with
          | zero => cases e; rfl
          | succ j => cases e
        have mm2 : ∀ b, Mt B.Z (ρ1 ++ tt) (σ ++ vs) b → Mt B'.Z (Sl.ref c' :: (rest.map onlyRef ++ [.val d.d])) (some (V.ref a) :: (us.map some ++ [some v])) b := fun b m => by
          by_cases e : b = a
          · subst e; exact .inr ⟨0, _, rfl, trivial, rfl⟩
          · exact .inl ⟨m, e⟩
        have q2 := q0.mutateG (i := i) (s := s c) (s' := s c') (d := c) (d' := c') (a := a) (H' := H') (getL gi1) (by rcases hs with rfl | rfl; exact .inl ⟨rfl, rfl⟩; exact .inr ⟨rfl, rfl⟩) hva
          (fun b o hb ne t => R'.ext.stay b o hb (fun hP => ne (nP b hP)) t) (fun b ps hb => R'.ext.tbl b ps hb) (fun b hb _ => R'.tab b hb) (own_congr mm2 hoa')
        rw [set_left hilt] at q2
        refine hQ v H' (q2.push_val (d := d.d) ?_)
        have hl2 : rest.length = us.length := by have := R'.len; simp at this; exact this
        obtain ⟨w, k1, k2⟩ := R'.val (rest.length + 1) d.d (by
          show (rest.map onlyRef ++ [Sl.val d.d])[rest.length]? = _
          rw [show rest.length = (rest.map onlyRef).length by simp]; exact getEnd _ _)
        have k1 : (us.map some ++ [some v])[rest.length]? = some (some w) := k1
        rw [hl2, show us.length = (us.map some).length by simp, getEnd] at k1
        cases k1
        refine rp_congr (fun b m => ?_) k2
        refine mm2 b ?_
        refine m.elim .inl fun ⟨j, t, k3, k4, k5⟩ => ?_
        rw [← set_left hilt] at k3
        rcases getSet k3 with ⟨rfl, rfl⟩ | ⟨_, k3⟩
        · exact .inr ⟨j, _, getL gi1, hso, k5⟩
        · exact .inr ⟨j, t, k3, k4, k5⟩
    cases ei : ρ1.at i with
    | no => rw [show (rs, ρ1).2.at i = ρ1.at i from rfl, ei] at hF; cases hF
    | val d => rw [show (rs, ρ1).2.at i = ρ1.at i from rfl, ei] at hF; cases hF
    | own c =>
      rw [show (rs, ρ1).2.at i = ρ1.at i from rfl, ei] at hF
      obtain ⟨⟨d, ps'⟩, g2, hF⟩ := Res.bind_ok hF
      cases ps' with
      | nil => cases hF
      | cons s0 rest =>
        cases s0 with
        | ref c' => cases hF; exact key Sl.own Sl.own c (.inl rfl) ei d _ c' rest g2 rfl rfl rfl
        | _ => cases hF
    | ref c =>
      rw [show (rs, ρ1).2.at i = ρ1.at i from rfl, ei] at hF
      obtain ⟨⟨d, ps'⟩, g2, hF⟩ := Res.bind_ok hF
      cases ps' with
      | nil => cases hF
      | cons s0 rest =>
        cases s0 with
        | ref c' => cases hF; exact key Sl.ref Sl.ref c (.inr rfl) ei d _ c' rest g2 rfl rfl rfl
        | _ => cases hF
  · cases h
end
end Gw

set_option Elab.async false
set_option linter.all false
set_option maxRecDepth 100000
set_option maxHeartbeats 2000000
/-! The value layer, part 11: what is walked. -/
namespace Gw
open PySem L2
section
variable {K : PySem.W.Frag} {B : Bs} {ss ss' : List Sl} {vs vs' : List (Option V)} {H : Hp}
/-- slots chosen anew, each once -/
theorem R.sel (r : R K B ss vs H) (f : Nat → Nat) (hl : ss'.length = vs'.length) (hs : ∀ (j : Nat) (s : Sl), ss'[j]? = some s → s = .no ∨ (ss[f j]? = some s ∧ vs'[j]? = vs[f j]?))
    (hinj : ∀ (i j : Nat) (s t : Sl), ss'[i]? = some s → ss'[j]? = some t → s.isOwn → t.isOwn → f i = f j → i = j) (href : ∀ (j : Nat) (d : D), ss'[j]? = some (.ref d) → f j = j)
    (hpin : ∀ (j : Nat) (d : D), ss[j]? = some (.ref d) → ss'[j]? = some (.ref d)) : R K B ss' vs' H := by
  have own : ∀ {j : Nat} {s : Sl}, ss'[j]? = some s → s.isOwn → ss[f j]? = some s ∧ vs'[j]? = vs[f j]? := fun {j s} h o => by
    rcases hs j s h with rfl | h
    · exact o.elim
    · exact h
  have mm : ∀ a, Mt B.Z ss' vs' a → Mt B.Z ss vs a := fun a m => m.elim .inl fun ⟨j, s, h1, h2, h3⟩ => by
    obtain ⟨g1, g2⟩ := own h1 h2
    exact .inr ⟨f j, s, g1, h2, g2 ▸ h3⟩
  refine ⟨hl, fun j d h => ?_, fun j d h => ?_, fun j d h => ?_, fun j a h => ?_, fun i j s t a h1 h2 o1 o2 h3 h4 => ?_, r.ext, r.tab, r.zed, fun j s a h1 o1 h3 => ?_, r.fix⟩
  · rcases hs j _ h with e | ⟨g1, g2⟩
    · cases e
    · obtain ⟨v, h1, h2⟩ := r.val _ d g1
      exact ⟨v, g2.trans h1, rp_congr mm h2⟩
  · obtain ⟨g1, g2⟩ := own h trivial
    obtain ⟨a, h1, h2, h3⟩ := r.own _ d g1
    exact ⟨a, g2.trans h1, own_congr mm h2, h3⟩
  · obtain ⟨g1, g2⟩ := own h trivial
    obtain ⟨a, h0, h1, h2⟩ := r.ref _ d g1
    rw [href j d h] at h0
    exact ⟨a, h0, g2.trans h1, own_congr mm h2⟩
  · obtain ⟨d, h1⟩ := r.pin j a h
    exact ⟨d, hpin j d h1⟩
  · obtain ⟨g1, g2⟩ := own h1 o1
    obtain ⟨g3, g4⟩ := own h2 o2
    exact hinj i j s t h1 h2 o1 o2 (r.sep _ _ s t a g1 g3 o1 o2 (g2 ▸ h3) (g4 ▸ h4))
  · obtain ⟨g1, g2⟩ := own h1 o1
    exact r.sepZ _ s a g1 o1 (g2 ▸ h3)
theorem R.push_no (r : R K B ss vs H) (v : Option V) : R K B (ss ++ [.no]) (vs ++ [v]) H := by
  refine r.sel (fun j => j) (by simp [r.len]) (fun j s h => ?_) (fun i j _ _ _ _ _ _ e => e) (fun _ _ _ => rfl) fun j d h => getL h
  rcases get1 h with ⟨hj, h⟩ | ⟨_, e⟩
  · refine .inr ⟨h, ?_⟩
    rw [List.getElem?_append_left (by rw [← r.len]; exact hj)]
  · exact .inl e
theorem R.drop_mid {s : Sl} {v : Option V} {ts : List Sl} {ws : List (Option V)} (r : R K B (ss ++ [s] ++ ts) (vs ++ [v] ++ ws) H) (hl : ss.length = vs.length) (hs : ∀ d, s ≠ .ref d) (ht : ∀ t ∈ ts, ∀ d, t ≠ .ref d) : R K B (ss ++ ts) (vs ++ ws) H := by
  have hw : ts.length = ws.length := by have := r.len; simp at this; omega
  refine r.sel (fun j => if j < ss.length then j else j + 1) (by simp [hl, hw]) (fun j t h => .inr ?_) (fun i j _ _ _ _ _ _ e => ?_) (fun j d h => ?_) fun j d h => ?_
  · rcases getA h with ⟨hj, h1⟩ | ⟨hj, h1⟩
    · simp only [hj, if_true]
      rw [List.append_assoc, List.getElem?_append_left hj]
      refine ⟨h1, ?_⟩
      rw [List.append_assoc, List.getElem?_append_left (by omega), List.getElem?_append_left (by omega)]
    · have hj' : ¬ j < ss.length := by omega
      simp only [hj', if_false]
      refine ⟨?_, ?_⟩
      · rw [List.getElem?_append_right (by simp; omega)]
        simp only [List.length_append, List.length_singleton]
        rw [show j + 1 - (ss.length + 1) = j - ss.length by omega]
        exact h1
      · rw [List.getElem?_append_right (by omega), List.getElem?_append_right (by simp; omega)]
        simp only [List.length_append, List.length_singleton]
        rw [show j + 1 - (vs.length + 1) = j - vs.length by omega]
  · split at e <;> split at e <;> omega
  · rcases getA h with ⟨hj, h1⟩ | ⟨hj, h1⟩
    · simp only [hj, if_true]
    · exact (ht _ (List.mem_of_getElem? h1) d rfl).elim
  · rw [List.append_assoc] at h
    rcases getA h with ⟨hj, h1⟩ | ⟨hj, h1⟩
    · exact getL h1
    · rcases getA h1 with ⟨hj2, h2⟩ | ⟨hj2, h2⟩
      · have := List.mem_of_getElem? h2
        simp at this
        exact (hs d this.symm).elim
      · exact (ht _ (List.mem_of_getElem? h2) d rfl).elim
/-- other values at slots of which nothing is said -/
theorem R.unwipe (r : R K B ss vs H) (hl : vs'.length = vs.length) (h : ∀ j : Nat, vs'[j]? = vs[j]? ∨ ss[j]? = some .no) : R K B ss vs' H := by
  refine r.sel (fun j => j) (by rw [hl]; exact r.len) (fun j s h1 => ?_) (fun i j _ _ _ _ _ _ e => e) (fun _ _ _ => rfl) fun j d h => h
  rcases h j with h | h
  · exact .inr ⟨h1, h⟩
  · rw [h] at h1; cases h1; exact .inl rfl
/-- an own container goes to the top -/
theorem R.moveOut {i : Nat} {d : D} {v : Option V} (r : R K B ss vs H) (h : ss[i]? = some (.own d)) (hv : vs[i]? = some v) : R K B (ss.set i .no ++ [.own d]) (vs ++ [v]) H := by
  have hi := lt_of_get h
  refine r.sel (fun j => if j = ss.length then i else j) (by simp [r.len]) (fun j s h1 => ?_) (fun a b s t h1 h2 o1 o2 e => ?_) (fun j e h1 => ?_) fun j e h1 => ?_
  · rcases get1 h1 with ⟨hj, h1⟩ | ⟨hj, rfl⟩
    · simp only [List.length_set] at hj
      rw [if_neg (by omega)]
      rcases getSet h1 with ⟨_, rfl⟩ | ⟨_, h1⟩
      · exact .inl rfl
      · exact .inr ⟨h1, by rw [List.getElem?_append_left (by rw [← r.len]; exact hj)]⟩
    · simp only [List.length_set] at hj
      rw [if_pos hj]
      refine .inr ⟨h, ?_⟩
      rw [hj, r.len, getEnd, hv]
  · rcases get1 h1 with ⟨ha, h1⟩ | ⟨ha, rfl⟩ <;> rcases get1 h2 with ⟨hb, h2⟩ | ⟨hb, rfl⟩ <;> simp only [List.length_set] at ha hb
    · rw [if_neg (by omega), if_neg (by omega)] at e; exact e
    · rw [if_neg (by omega), if_pos hb] at e
      subst e
      rw [List.getElem?_set_self hi] at h1
      cases h1; exact o1.elim
    · rw [if_pos ha, if_neg (by omega)] at e
      subst e
      rw [List.getElem?_set_self hi] at h2
      cases h2; exact o2.elim
    · omega
  · rcases get1 h1 with ⟨hj, h1⟩ | ⟨hj, e⟩
    · simp only [List.length_set] at hj
      rw [if_neg (by omega)]
    · cases e
  · have hj := lt_of_get h1
    by_cases e2 : i = j
    · subst e2; rw [h] at h1; cases h1
    · refine getL ?_
      rw [List.getElem?_set_ne e2]; exact h1
/-- a store: the last one goes to slot i -/
theorem R.store {i : Nat} {s t : Sl} {v : Option V} (r : R K B (ss ++ [s]) (vs ++ [v]) H) (hs : ∀ d, s ≠ .ref d) (h : ss[i]? = some t) (ht : ∀ d, t ≠ .ref d) : R K B (ss.set i s) (vs.set i v) H := by
  have hl : ss.length = vs.length := by have := r.len; simp at this; exact this
  have hi := lt_of_get h
  have r1 : R K B (ss.set i .no ++ [s]) (vs ++ [v]) H := by
    refine r.sel (fun j => j) (by simp [hl]) (fun j s' h1 => ?_) (fun i j _ _ _ _ _ _ e => e) (fun _ _ _ => rfl) fun j d h1 => ?_
    · rcases get1 h1 with ⟨hj, h1⟩ | ⟨hj, rfl⟩
      · simp only [List.length_set] at hj
        rcases getSet h1 with ⟨_, rfl⟩ | ⟨_, h1⟩
        · exact .inl rfl
        · exact .inr ⟨getL h1, rfl⟩
      · simp only [List.length_set] at hj
        exact .inr ⟨by rw [hj]; exact getEnd _ _, rfl⟩
    · rcases get1 h1 with ⟨hj, h1⟩ | ⟨_, e⟩
      · refine getL ?_
        by_cases e2 : i = j
        · subst e2; rw [h] at h1; exact (ht d (Option.some.inj h1)).elim
        · rw [List.getElem?_set_ne e2]; exact h1
      · exact (hs d e.symm).elim
  have r2 := r1.moveIn hs (List.getElem?_set_self hi)
  rw [List.set_set] at r2
  exact r2
end

/-! ### walks -/
structure Wk (K : PySem.W.Frag) (B : Bs) (J : It) (ds : List D) (s : Sl) (v : Option V) : Prop where
  go : ∀ (i : Nat) ss vs H, i < ds.length → ss.length = List.length vs → R K B (ss ++ [s]) (vs ++ [v]) H → J.go i H
  stop : ∀ ss vs H, ss.length = List.length vs → R K B (ss ++ [s]) (vs ++ [v]) H → J.stop ds.length H
  yld : ∀ (i : Nat) ss vs H x H' d, ds[i]? = some d → ss.length = List.length vs → R K B (ss ++ [s]) (vs ++ [v]) H → J.yld i H x H' → R K B (ss ++ [s] ++ [.val d]) (vs ++ [v] ++ [some x]) H'
def Held (mv : Option (Nat × D)) (s : Sl) (v : Option V) (σ : List (Option V)) : Prop := match mv with
  | none => ∀ d, s ≠ .ref d
  | some (i, c) => s = .own c ∧ σ[i]? = some v
theorem Held.noref {mv : Option (Nat × D)} {s : Sl} {v : Option V} {σ : List (Option V)} (h : Held mv s v σ) : ∀ d, s ≠ .ref d := by
  cases mv with
  | none => exact h
  | some p => obtain ⟨rfl, _⟩ := h; intro d e; cases e
def iD (K : PySem.W.Frag) (B : Bs) (F : Env → Res (List D × Env × Option (Nat × D))) : TI := fun σ H Rr => ∃ (ρ : Env) (ts : List Sl) (vs : List (Option V)) (ds : List D) (ρ' : Env) (mv : Option (Nat × D)),
  R K B (ρ ++ ts) (σ ++ vs) H ∧ ρ.length = σ.length ∧ F ρ = .ok (ds, ρ', mv) ∧ ∀ J H' s v, Held mv s v σ → R K B (ρ' ++ ts ++ [s]) (σ ++ vs ++ [v]) H' → (∀ B', Wk K B' J ds s v) → Rr J H'
def SI (tabs : List Addr) (X : Cx) (tg x : Expr) (F : Env → Res (List D × Env × Option (Nat × D))) : Prop := ∀ B : Bs, B.tabs = tabs → PI X tg x (iD X.K B F)
section
variable {K : PySem.W.Frag} {B : Bs} {ss : List Sl} {vs : List (Option V)} {H : Hp}
theorem R.topList {s : Sl} {ds : List D} {a : Addr} (r : R K B (ss ++ [s]) (vs ++ [some (.ref a)]) H) (hl : ss.length = vs.length) (hs : s = .val (.lst ds) ∨ s = .own (.lst ds)) : ∃ xs, H a = some (.lst xs) ∧ RpA K (Mt B.Z (ss ++ [s]) (vs ++ [some (.ref a)])) H xs ds := by
  rcases hs with rfl | rfl
  · obtain ⟨u, h1, h2⟩ := r.val ss.length _ (getEnd _ _)
    rw [hl, getEnd] at h1
    cases h1
    obtain ⟨a', xs, e, g1, _, g3⟩ := h2.lstV
    cases e
    exact ⟨xs, g1, g3⟩
  · obtain ⟨u, h1, h2, _⟩ := r.own ss.length _ (getEnd _ _)
    rw [hl, getEnd] at h1
    cases h1
    exact h2
theorem wk_list {s : Sl} {ds : List D} {a : Addr} (hs : s = .val (.lst ds) ∨ s = .own (.lst ds)) : Wk K B (Itl K a) ds s (some (.ref a)) where
  go := fun i ss vs H hi hl r => by
    obtain ⟨xs, h1, h2⟩ := r.topList hl hs
    obtain ⟨v, h3, _⟩ := h2.get (List.getElem?_eq_getElem hi)
    exact ⟨xs, v, .inl (.inl h1), h3⟩
  stop := fun ss vs H hl r => by
    obtain ⟨xs, h1, h2⟩ := r.topList hl hs
    exact ⟨xs, .inl (.inl h1), by rw [h2.len]; exact Nat.le_refl _⟩
  yld := fun i ss vs H x H' d hd hl r y => by
    obtain ⟨rfl, y⟩ := y
    obtain ⟨xs, h1, h2⟩ := r.topList hl hs
    have h3 := y xs (.inl (.inl h1))
    obtain ⟨v, h4, h5⟩ := h2.get hd
    rw [h3] at h4; cases h4
    exact r.push_val h5
theorem wk_tup {ds : List D} {a : Addr} : Wk K B (Itt K a) ds (.val (.tup ds)) (some (.ref a)) := by
  have top : ∀ {ss : List Sl} {vs : List (Option V)} {H : Hp}, ss.length = vs.length → R K B (ss ++ [.val (.tup ds)]) (vs ++ [some (.ref a)]) H → ∃ xs, SqT K H a xs ∧ RpA K (Mt B.Z (ss ++ [.val (.tup ds)]) (vs ++ [some (.ref a)])) H xs ds := fun {ss vs H} hl r => by
    obtain ⟨u, h1, h2⟩ := r.val ss.length _ (getEnd _ _)
    rw [hl, getEnd] at h1
    cases h1
    obtain ⟨a', xs, e, g1, g3⟩ := h2.tupV
    cases e
    exact ⟨xs, g1, g3⟩
  exact {
    go := fun i ss vs H hi hl r => by
      obtain ⟨xs, h1, h2⟩ := top hl r
      obtain ⟨v, h3, _⟩ := h2.get (List.getElem?_eq_getElem hi)
      exact ⟨xs, v, h1, h3⟩
    stop := fun ss vs H hl r => by
      obtain ⟨xs, h1, h2⟩ := top hl r
      exact ⟨xs, h1, by rw [h2.len]; exact Nat.le_refl _⟩
    yld := fun i ss vs H x H' d hd hl r y => by
      obtain ⟨rfl, y⟩ := y
      obtain ⟨xs, h1, h2⟩ := top hl r
      have h3 := y xs h1
      obtain ⟨v, h4, h5⟩ := h2.get hd
      rw [h3] at h4; cases h4
      exact r.push_val h5 }
theorem wk_str {l : List Nat} {s : Sl} {v : Option V} : Wk K B (Its (mkS l)) (signs l) s v where
  go := fun i ss vs H hi hl r => by
    show i < (mkS l).cps.size
    simpa [signs, mkS] using hi
  stop := fun ss vs H hl r => by
    show (mkS l).cps.size ≤ (signs l).length
    simp [signs, mkS]
  yld := fun i ss vs H x H' d hd hl r y => by
    obtain ⟨rfl, c, hc, rfl⟩ := y
    have : d = .str [c] := by
      unfold signs at hd
      rw [List.getElem?_map] at hd
      have hc' : l[i]? = some c := by simpa [mkS] using hc
      rw [hc'] at hd
      exact (Option.some.inj hd).symm
    subst this
    exact r.push_val (.str [c])
theorem wk_rng {lo : Int} {n : Nat} {s : Sl} {v : Option V} : Wk K B (Itr lo n) (ranged lo 1 n) s v where
  go := fun i ss vs H hi hl r => by
    show i < n
    simpa [ranged] using hi
  stop := fun ss vs H hl r => by
    show n ≤ (ranged lo 1 n).length
    simp [ranged]
  yld := fun i ss vs H x H' d hd hl r y => by
    obtain ⟨rfl, rfl⟩ := y
    have hi : i < n := by have := lt_of_get hd; simpa [ranged] using this
    have : d = .int (lo + i) := by
      unfold ranged at hd
      rw [List.getElem?_map, List.getElem?_range hi] at hd
      simpa using hd.symm
    subst this
    exact r.push_val (.int _)
theorem wk_rngC {lo c : Int} {n : Nat} {s : Sl} {v : Option V} : Wk K B (Itc lo c n) (ranged lo c n) s v where
  go := fun i ss vs H hi hl r => by
    show i < n
    simpa [ranged] using hi
  stop := fun ss vs H hl r => by
    show n ≤ (ranged lo c n).length
    simp [ranged]
  yld := fun i ss vs H x H' d hd hl r y => by
    obtain ⟨rfl, rfl⟩ := y
    have hi : i < n := by have := lt_of_get hd; simpa [ranged] using this
    have : d = .int (lo + (i : Int) * c) := by
      unfold ranged at hd
      rw [List.getElem?_map, List.getElem?_range hi] at hd
      simpa using hd.symm
    subst this
    exact r.push_val (.int _)
theorem wk_rev {s : Sl} {ds : List D} {a : Addr} {n : Nat} (hn : n = ds.length) (hs : s = .val (.lst ds) ∨ s = .own (.lst ds)) : Wk K B (Itv K a n) ds.reverse s (some (.ref a)) where
  go := fun i ss vs H hi hl r => by
    subst hn
    obtain ⟨xs, h1, h2⟩ := r.topList hl hs
    rw [List.length_reverse] at hi
    obtain ⟨v, h3, _⟩ := h2.get (List.getElem?_eq_getElem (show ds.length - 1 - i < ds.length by omega))
    exact ⟨hi, xs, v, .inl (.inl h1), h3⟩
  stop := fun ss vs H hl r => by
    subst hn
    show ds.length ≤ ds.reverse.length
    simp
  yld := fun i ss vs H x H' d hd hl r y => by
    subst hn
    obtain ⟨rfl, y⟩ := y
    obtain ⟨xs, h1, h2⟩ := r.topList hl hs
    have h3 := y xs (.inl (.inl h1))
    have hi : i < ds.length := by have := lt_of_get hd; simpa using this
    rw [List.getElem?_reverse hi] at hd
    obtain ⟨v, h4, h5⟩ := h2.get hd
    rw [h3] at h4; cases h4
    exact r.push_val h5
end
section
variable {gi : GI} {G : Glo} {tabs : List Addr} {N : List Str} {sc ts : Scope} {k : Nat} {X : Cx} {tg : Expr}
theorem snd_frz {e : E} {x : Expr} (h1 : SE tabs X x (runE G e)) : SI tabs X tg x (runI G (.frz e)) := fun B hB => by
  refine ⟨fun pins s σ H Rr I ⟨ρ, tt, vs, ds, ρ', mv, hR, hl, hF, hQ⟩ => ?_⟩
  simp only [runI] at hF
  obtain ⟨⟨r, ρ1⟩, g1, hF⟩ := Res.bind_ok hF
  obtain ⟨ds', g2, hF⟩ := Res.bind_ok hF
  have g2 : dItems r.d = some ds' := Res.of_ok g2
  cases hF
  have hn : Held none r.sl (none : Option V) σ := fun d => r.noref d
  have read : ∀ (Q : VK), (∀ v H', R X.K B (ρ1 ++ tt ++ [r.sl]) (σ ++ vs ++ [some v]) H' → Q v H') → tE X.K B (runE G e) σ H Q := fun Q hq => ⟨ρ, tt, vs, r, ρ1, hR, hl, g1, hq⟩
  cases q : r.d with
  | lst l =>
    rw [q] at g2
    cases g2
    have hs : r.sl = .val (.lst ds) ∨ r.sl = .own (.lst ds) := by
      cases r with
      | val d => left; show Sl.val d = _; rw [show d = D.lst ds from q]
      | own d => right; show Sl.own d = _; rw [show d = D.lst ds from q]
    refine (pi_list (h1 B hB)).run pins s σ H Rr I (read _ fun v H' R1 => ?_)
    obtain ⟨_, q1⟩ := R1.take1
    rw [q] at q1
    obtain ⟨a, xs, rfl, k1, _, k3⟩ := q1.lstV
    exact ⟨a, rfl, ⟨xs, .inl (.inl k1)⟩, hQ _ H' r.sl (some (.ref a)) (fun d => r.noref d) R1 (fun _ => wk_list hs)⟩
  | tup l =>
    rw [q] at g2
    cases g2
    have hs : r.sl = .val (.tup ds) ∨ r.sl = .own (.tup ds) := by
      cases r with
      | val d => left; show Sl.val d = _; rw [show d = D.tup ds from q]
      | own d => right; show Sl.own d = _; rw [show d = D.tup ds from q]
    refine (pi_tup (h1 B hB)).run pins s σ H Rr I (read _ fun v H' R1 => ?_)
    have R2 := R1.frzTop
    obtain ⟨_, q1⟩ := R1.take1
    rw [q] at q1 R2
    obtain ⟨a, xs, rfl, k1, k3⟩ := q1.tupV
    exact ⟨a, rfl, ⟨xs, k1⟩, hQ _ H' _ (some (.ref a)) (fun d e => by cases e) R2 (fun _ => wk_tup)⟩
  | str l =>
    rw [q] at g2
    cases g2
    refine (pi_str (h1 B hB)).run pins s σ H Rr I (read _ fun v H' R1 => ?_)
    obtain ⟨_, q1⟩ := R1.take1
    rw [q] at q1
    exact ⟨mkS l, q1.strV, hQ _ H' r.sl (some v) (fun d => r.noref d) R1 (fun _ => wk_str)⟩
  | _ => rw [q] at g2; cases g2
theorem snd_mov (o : XOk gi G tabs N sc ts k X) {i : Nat} {x : Expr} (h : okV N sc i x = true) : SI tabs X tg x (runI G (.mov i)) := fun B hB => by
  refine ⟨fun pins s σ H Rr I ⟨ρ, tt, vs, ds, ρ', mv, hR, hl, hF, hQ⟩ => ?_⟩
  simp only [runI] at hF
  split at hF
  · rename_i l hi
    cases hF
    have g := at_some hi (by intro z; cases z)
    have hlt := lt_of_get g
    obtain ⟨a, k1, k2, _⟩ := hR.own i _ (getL g)
    have k1' := k1
    rw [get_left (by omega)] at k1'
    obtain ⟨xs, k3, k4⟩ := k2
    refine (pi_list (o.var h)).run pins s σ H Rr I ⟨.ref a, k1', a, rfl, ⟨xs, .inl (.inl k3)⟩, ?_⟩
    have R1 := hR.moveOut (getL g) k1
    rw [set_left hlt] at R1
    exact hQ _ H (.own (.lst ds)) (some (.ref a)) ⟨rfl, k1'⟩ R1 (fun _ => wk_list (.inr rfl))
  · rename_i l hi
    cases hF
    have g := at_some hi (by intro z; cases z)
    have hlt := lt_of_get g
    obtain ⟨v, k1, k2⟩ := hR.val i _ (getL g)
    have k1' := k1
    rw [get_left (by omega)] at k1'
    have k2' := k2
    obtain ⟨a, xs, rfl, k3, _, k4⟩ := k2.lstV
    refine (pi_list (o.var h)).run pins s σ H Rr I ⟨.ref a, k1', a, rfl, ⟨xs, .inl (.inl k3)⟩, ?_⟩
    exact hQ _ H (.val (.lst ds)) (some (.ref a)) (fun d e => by cases e) (hR.push_val k2') (fun _ => wk_list (.inl rfl))
  · cases hF
theorem inR_iff {i : Int} (h : inR i = true) : -(2 ^ 62) ≤ i ∧ i < 2 ^ 62 := by
  unfold inR at h
  rw [Bool.and_eq_true] at h
  exact ⟨of_decide_eq_true h.1, of_decide_eq_true h.2⟩
theorem runEs_len : ∀ {es : Es} {l : List Expr} {ρ ρ' : Env} {rs : List Rv}, runEs G es ρ = .ok (rs, ρ') → okEs gi N sc es l = true → rs.length = l.length
  | .nil, l, ρ, ρ', rs, h, hk => by
    simp only [runEs] at h
    cases h
    have : l = [] := by simpa [okEs] using hk
    subst this; rfl
  | .cons e es, [], _, _, _, _, hk => by simp [okEs] at hk
  | .cons e es, x :: l, ρ, ρ', rs, h, hk => by
    simp only [runEs] at h
    obtain ⟨p1, _, h⟩ := Res.bind_ok h
    obtain ⟨p2, k2, h⟩ := Res.bind_ok h
    cases h
    simp only [okEs, Bool.and_eq_true] at hk
    have := runEs_len (ρ' := p2.2) (rs := p2.1) k2 hk.2
    simp [this]
theorem blt_range : (("range" : String) : Str) ∈ bltNames := by decide +kernel
theorem snd_rng (o : XOk gi G tabs N sc ts k X) {es : Es} {x : Expr} (h : okI gi N sc (.rng es) x tg = true) (ih : ∀ l, okEs gi N sc es l = true → SA tabs X l (runEs G es)) : SI tabs X tg x (runI G (.rng es)) := fun B hB => by
  simp only [okI] at h
  cases e : asCall x with
  | none => rw [e] at h; cases h
  | some z =>
    obtain ⟨f, l⟩ := z
    rw [e] at h
    simp only [Bool.and_eq_true, decide_eq_true_eq] at h
    obtain ⟨p, pos, rfl⟩ := asCall_some e
    obtain ⟨⟨⟨rfl, h1⟩, h2⟩, h3⟩ := h
    have hm := o.blt _ blt_range
    have st : ∀ {y : Expr} {l : List Expr} {es : Es}, okEs gi N sc es (y :: l) = true → isStar y = false ∧ ∃ es', okEs gi N sc es' l = true := fun {y l es} h3 => by
      cases es with
      | nil => simp [okEs] at h3
      | cons e' es' =>
        simp only [okEs, Bool.and_eq_true, Bool.not_eq_true'] at h3
        exact ⟨h3.1.1, es', h3.2⟩
    refine ⟨fun pins s σ H Rr I ⟨ρ, tt, vs, ds, ρ', mv, hR, hl, hF, hQ⟩ => ?_⟩
    simp only [runI] at hF
    obtain ⟨⟨rs, ρ1⟩, g1, hF⟩ := Res.bind_ok hF
    obtain ⟨ds', g2, hF⟩ := Res.bind_ok hF
    have g2 : dRange (rs.map Rv.d) = some ds' := Res.of_ok g2
    cases hF
    have read : ∀ (Q : List V → Hp → Prop), (∀ us H', RpA X.K (Mt B.Z (ρ1 ++ tt) (σ ++ vs)) H' us (rs.map Rv.d) → R X.K B (ρ1 ++ tt) (σ ++ vs) H' → Q us H') → tAs X.K B (runEs G es) σ H Q := fun Q hq => ⟨ρ, tt, vs, rs, ρ1, hR, hl, g1, fun us H1 hu R1 => by
      have e1 : (ρ1 ++ tt).length = (σ ++ vs).length := by have a := hR.len; have b := R1.len; simp at a b ⊢; omega
      obtain ⟨q0, q1⟩ := R1.takeAll e1
      exact hq us H1 q1 q0⟩
    have fin : ∀ {H' : Hp} {J : It}, R X.K B (ρ1 ++ tt) (σ ++ vs) H' → (∀ B', Wk X.K B' J ds .no none) → Rr J H' := fun {H' J} q0 w => hQ J H' .no none (fun d e => by cases e) (q0.push_no none) w
    have int1 : ∀ {us : List V} {H' : Hp} {i : Int}, RpA X.K (Mt B.Z (ρ1 ++ tt) (σ ++ vs)) H' us [.int i] → us = [.int i] := fun {us H' i} h => by
      cases h with | cons h t => cases t; rw [h.intV]
    have int2 : ∀ {us : List V} {H' : Hp} {i j : Int}, RpA X.K (Mt B.Z (ρ1 ++ tt) (σ ++ vs)) H' us [.int i, .int j] → us = [.int i, .int j] := fun {us H' i j} h => by
      cases h with | cons h t => cases t with | cons h' t => cases t; rw [h.intV, h'.intV]
    have int3 : ∀ {us : List V} {H' : Hp} {i j c : Int}, RpA X.K (Mt B.Z (ρ1 ++ tt) (σ ++ vs)) H' us [.int i, .int j, .int c] → us = [.int i, .int j, .int c] := fun {us H' i j c} h => by
      cases h with | cons h t => cases t with | cons h' t => cases t with | cons h'' t => cases t; rw [h.intV, h'.intV, h''.intV]
    have hrs := runEs_len g1 h3
    match l, h3, h2, hrs with
    | [], h3, _, hrs =>
      have : rs = [] := by simpa using hrs
      subst this
      cases g2
    | [a], h3, _, hrs =>
      obtain ⟨s1, es1, t1⟩ := st h3
      refine (pi_range1 (o.gl h1) hm (ih _ h3 B hB) (by rw [star_of s1]; rfl)).run pins s σ H Rr I (read _ fun us H' q1 q0 => ?_)
      match q : rs.map Rv.d, g2, q1 with
      | [.int j], g2, q1 =>
        simp only [dRange] at g2
        by_cases hj : inR j = true
        · rw [if_pos hj] at g2
          cases g2
          exact ⟨j, int1 q1, (inR_iff hj).1, (inR_iff hj).2, fin q0 (fun _ => wk_rng)⟩
        · rw [if_neg hj] at g2; cases g2
      | [.int i, .int j], g2, q1 => have := congrArg List.length q; simp [hrs] at this
      | [.int i, .int j, .int c], g2, q1 => have := congrArg List.length q; simp [hrs] at this
    | [a, b], h3, _, hrs =>
      obtain ⟨s1, es1, t1⟩ := st h3
      obtain ⟨s2, es2, t2⟩ := st t1
      refine (pi_range2 (o.gl h1) hm (ih _ h3 B hB) (by rw [star_of s1, star_of s2]; rfl) (by rw [star_of s2]; rfl)).run pins s σ H Rr I (read _ fun us H' q1 q0 => ?_)
      match q : rs.map Rv.d, g2, q1 with
      | [.int j], g2, q1 => have := congrArg List.length q; simp [hrs] at this
      | [.int i, .int j], g2, q1 =>
        simp only [dRange] at g2
        by_cases hj : (inR i && inR j) = true
        · rw [if_pos hj] at g2
          cases g2
          rw [Bool.and_eq_true] at hj
          exact ⟨i, j, int2 q1, ⟨(inR_iff hj.1).1, (inR_iff hj.1).2, (inR_iff hj.2).1, (inR_iff hj.2).2⟩, fin q0 (fun _ => wk_rng)⟩
        · rw [if_neg hj] at g2; cases g2
      | [.int i, .int j, .int c], g2, q1 => have := congrArg List.length q; simp [hrs] at this
    | [a, b, c], h3, _, hrs =>
      obtain ⟨s1, es1, t1⟩ := st h3
      obtain ⟨s2, es2, t2⟩ := st t1
      obtain ⟨s3, es3, t3⟩ := st t2
      refine (pi_range3 (o.gl h1) hm (ih _ h3 B hB) (by rw [star_of s1, star_of s2, star_of s3]) (by rw [star_of s2, star_of s3]; rfl)).run pins s σ H Rr I (read _ fun us H' q1 q0 => ?_)
      match q : rs.map Rv.d, g2, q1 with
      | [.int j], g2, q1 => have := congrArg List.length q; simp [hrs] at this
      | [.int i, .int j], g2, q1 => have := congrArg List.length q; simp [hrs] at this
      | [.int i, .int j, .int c], g2, q1 =>
        simp only [dRange] at g2
        by_cases hj : (inR i && inR j && decide (c = -1)) = true
        · rw [if_pos hj] at g2
          cases g2
          simp only [Bool.and_eq_true, decide_eq_true_eq] at hj
          obtain ⟨⟨ha, hb⟩, rfl⟩ := hj
          exact ⟨i, j, -1, (i - j).toNat, int3 q1, RgC.neg (inR_iff ha).1 (inR_iff ha).2 (inR_iff hb).1 (inR_iff hb).2, fin q0 (fun _ => wk_rngC)⟩
        · rw [if_neg hj] at g2; cases g2
theorem blt_rev : (("reversed" : String) : Str) ∈ bltNames := by decide +kernel
theorem snd_rev (o : XOk gi G tabs N sc ts k X) {e : E} {x : Expr} (h : okI gi N sc (.rev e) x tg = true) (ih : ∀ y, okE gi N sc e y = true → SE tabs X y (runE G e)) : SI tabs X tg x (runI G (.rev e)) := fun B hB => by
  simp only [okI] at h
  split at h
  · rename_i f y ee
    simp only [Bool.and_eq_true, decide_eq_true_eq, Bool.not_eq_true'] at h
    obtain ⟨p, pos, rfl⟩ := asCall_some ee
    obtain ⟨⟨⟨rfl, h1⟩, h2⟩, h3⟩ := h
    refine ⟨fun pins s σ H Rr I ⟨ρ, tt, vs, ds, ρ', mv, hR, hl, hF, hQ⟩ => ?_⟩
    simp only [runI] at hF
    obtain ⟨⟨r, ρ1⟩, g1, hF⟩ := Res.bind_ok hF
    cases q : r.d with
    | lst l =>
      rw [show (r, ρ1).1.d = r.d from rfl, q] at hF
      cases hF
      have hs : r.sl = .val (.lst l) ∨ r.sl = .own (.lst l) := by
        cases r with
        | val d => left; show Sl.val d = _; rw [show d = D.lst l from q]
        | own d => right; show Sl.own d = _; rw [show d = D.lst l from q]
      refine (pi_reversed (o.gl h1) (o.blt _ blt_rev) (pa_cons (ih y h3 B hB) pa_nil (star_of h2)) (by rw [star_of h2]; rfl)).run pins s σ H Rr I ⟨ρ, tt, vs, r, ρ1, hR, hl, g1, fun v H' R1 => ?_⟩
      obtain ⟨_, q1⟩ := R1.take1
      rw [q] at q1
      obtain ⟨a, xs, rfl, k1, _, k3⟩ := q1.lstV
      exact ⟨a, xs, rfl, .inl (.inl k1), hQ _ H' r.sl (some (.ref a)) (fun d => r.noref d) R1 (fun _ => wk_rev k3.len hs)⟩
    | _ => rw [show (r, ρ1).1.d = r.d from rfl, q] at hF; cases hF
  · cases h
end
end Gw

set_option Elab.async false
set_option linter.all false
set_option maxRecDepth 100000
set_option maxHeartbeats 2000000
/-! The value layer, part 12: targets, list comprehensions. -/
namespace Gw
open PySem L2

/-! ### targets -/
def gD (K : PySem.W.Frag) (B : Bs) (t : T) : TG := fun v σ H Q => ∃ (ρ : Env) (ts : List Sl) (vs : List (Option V)) (d : D) (ρ' : Env), R K B (ρ ++ ts ++ [.val d]) (σ ++ vs ++ [some v]) H ∧ ρ.length = σ.length ∧ setT t d ρ = some ρ' ∧
  ∀ σ' H', σ'.length = σ.length → (∀ j, j ∉ t.slots → σ'[j]? = σ[j]?) → R K B (ρ' ++ ts) (σ' ++ vs) H' → Q σ' H'
def gsD (K : PySem.W.Frag) (B : Bs) (tl : List T) : TGs := fun us σ H Q => ∃ (ρ : Env) (ts : List Sl) (vs : List (Option V)) (ds : List D) (ρ' : Env), R K B (ρ ++ ts) (σ ++ vs) H ∧ RpA K (Mt B.Z (ρ ++ ts) (σ ++ vs)) H us ds ∧ ρ.length = σ.length ∧ setTs tl ds ρ = some ρ' ∧
  ∀ σ' H', σ'.length = σ.length → (∀ j, j ∉ T.slots.slotsL tl → σ'[j]? = σ[j]?) → R K B (ρ' ++ ts) (σ' ++ vs) H' → Q σ' H'
theorem R.put_ok {K : PySem.W.Frag} {B : Bs} {ρ ρ' : Env} {ts : List Sl} {σ : List (Option V)} {H : Hp} {i : Nat} {s : Sl} (r : R K B (ρ ++ ts) σ H) (h : ρ.put i s = some ρ') : (∀ e, ρ.at i ≠ .ref e) ∧ ρ' = ρ.set i s := by
  cases i with
  | zero =>
    simp only [Env.put] at h
    split at h
    · cases h
    · rename_i hn
      exact ⟨fun e q => hn e q, (Option.some.inj h).symm⟩
  | succ i =>
    simp only [Env.put] at h
    refine ⟨fun e q => ?_, (Option.some.inj h).symm⟩
    obtain ⟨a, z, _⟩ := r.ref (i + 1) e (getL (at_some q (fun z => by cases z)))
    cases z
section
variable {K : PySem.W.Frag} {B : Bs} {ρ : Env} {ts : List Sl} {σ : List (Option V)} {vs : List (Option V)} {H : Hp}
theorem RpA.inv {K : PySem.W.Frag} {M : Addr → Prop} {H : Hp} {us : List V} {d : D} {ds : List D} (h : RpA K M H us (d :: ds)) : ∃ v vs, us = v :: vs ∧ Rp K M H v d ∧ RpA K M H vs ds := by
  cases h with | cons h t => exact ⟨_, _, rfl, h, t⟩
theorem R.pushAll {K : PySem.W.Frag} {B : Bs} {H : Hp} : ∀ {us : List V} {ds : List D} {ss : List Sl} {vs : List (Option V)}, R K B ss vs H → RpA K (Mt B.Z ss vs) H us ds → R K B (ss ++ ds.map Sl.val) (vs ++ us.map some) H
  | _, _, ss, vs, r, .nil => by simpa using r
  | _, _, ss, vs, r, .cons (v := v) (vs := us) (d := d) (ds := ds) h t => by
    have r1 := r.push_val h
    have t1 : RpA K (Mt B.Z (ss ++ [.val d]) (vs ++ [some v])) H us ds := t.mono (fun a o h _ _ => h) fun a m => .inl ((mt_push_val r.len).mp m)
    have r2 := R.pushAll r1 t1
    simpa using r2
theorem R.takeVals {K : PySem.W.Frag} {B : Bs} {H : Hp} {us : List V} {ds : List D} {ss : List Sl} {vs : List (Option V)} (r : R K B (ss ++ ds.map Sl.val) (vs ++ us.map some) H) (hl : ss.length = vs.length) : R K B ss vs H ∧ RpA K (Mt B.Z ss vs) H us ds := by
  have e1 : (ds.map Rv.val).map Rv.sl = ds.map Sl.val := by rw [List.map_map]; rfl
  have e2 : (ds.map Rv.val).map Rv.d = ds := by rw [List.map_map]; exact List.map_id' ds
  rw [← e1] at r
  have q := r.takeAll hl
  rw [e2] at q
  exact q
theorem at_get {i : Nat} (hi : i < ρ.length) : ρ[i]? = some (ρ.at i) := by
  unfold Env.at
  rw [List.getElem?_eq_getElem hi]; rfl
theorem R.storeT {i : Nat} {d : D} {v : V} (r : R K B (ρ ++ ts ++ [.val d]) (σ ++ vs ++ [some v]) H) (hl : ρ.length = σ.length) (hi : i < ρ.length) (hn : ∀ e, ρ.at i ≠ .ref e) : R K B (ρ.set i (.val d) ++ ts) (σ.set i (some v) ++ vs) H := by
  have q := r.store (i := i) (t := ρ.at i) (fun d e => by cases e) (getL (at_get hi)) hn
  rw [set_left hi, set_left (by omega)] at q
  exact q
end
section
variable {gi : GI} {G : Glo} {tabs : List Addr} {N : List Str} {sc ts : Scope} {k : Nat} {X : Cx}
theorem okTs_each {env : PySem.Env} : ∀ {tl : List T} {es : List Expr}, okTs N ts tl es = true → (assignEach es env).length = es.length ∧ (assignEach es env).findIdx? (·.1) = none ∧ tl.length = es.length
  | [], [], _ => ⟨rfl, rfl, rfl⟩
  | [], _ :: _, h => by simp [okTs] at h
  | _ :: _, [], h => by simp [okTs] at h
  | t :: tl, x :: xs, h => by
    simp only [okTs, Bool.and_eq_true] at h
    have hx : assignEach (x :: xs) env = (false, assign x env) :: assignEach xs env := by
      cases t with
      | nm i =>
        have h1 := h.1
        simp only [okT] at h1
        cases q : asName x with
        | none => rw [q] at h1; cases h1
        | some y => obtain ⟨p, rfl⟩ := asName_some q; rfl
      | tu tt =>
        have h1 := h.1
        simp only [okT] at h1
        cases q : asTup x with
        | none => rw [q] at h1; cases h1
        | some y => obtain ⟨k, p, rfl⟩ := asTup_some q; rfl
    obtain ⟨h1, h2, h3⟩ := okTs_each (env := env) h.2
    rw [hx]
    refine ⟨by simp [h1], ?_, by simp [h3]⟩
    rw [List.findIdx?_cons]
    simp [h2]
theorem setTs_len : ∀ {tl : List T} {ds : List D} {ρ ρ' : Env}, setTs tl ds ρ = some ρ' → tl.length = ds.length
  | [], [], _, _, _ => rfl
  | [], _ :: _, _, _, h => by simp [setTs] at h
  | _ :: _, [], _, _, h => by simp [setTs] at h
  | t :: tl, d :: ds, ρ, ρ', h => by
    simp only [setTs] at h
    split at h
    · rw [List.length_cons, List.length_cons, setTs_len h]
    · cases h
mutual
theorem pg_ok (o : XOk gi G tabs N sc ts k X) (B : Bs) : ∀ (t : T) (x : Expr), okT N ts t x = true → PG X x (gD X.K B t)
  | .nm i, x, h => by
    simp only [okT] at h
    cases e : asName x with
    | none => rw [e] at h; cases h
    | some y =>
      rw [e] at h
      simp only [Bool.and_eq_true, decide_eq_true_eq] at h
      obtain ⟨p, rfl⟩ := asName_some e
      obtain ⟨h1, h2⟩ := o.fnm y h.2
      refine ⟨fun pins s σ H v u Q I r ⟨ρ, tt, vs, d, ρ', hR, hl, hF, hQ⟩ => ?_⟩
      simp only [setT] at hF
      obtain ⟨hn, rfl⟩ := R.put_ok (ts := tt ++ [.val d]) (by simpa using hR) hF
      have hi : i < ρ.length := by
        rw [hl, I.len, o.hN]; exact lt_of_get h.1
      refine (pg_name (i := i) (by rw [o.hN]; exact o.nd) (by rw [o.hN]; exact h.1) h1 h2).run pins s σ H v u Q I r ?_
      refine hQ _ H (by simp) (fun j hj => ?_) (hR.storeT hl hi hn)
      have : i ≠ j := fun z => hj (by simp [T.slots, z])
      rw [List.getElem?_set_ne this]
  | .tu tl, x, h => by
    simp only [okT] at h
    cases e : asTup x with
    | none => rw [e] at h; cases h
    | some es =>
      rw [e] at h
      obtain ⟨kk, p, rfl⟩ := asTup_some e
      obtain ⟨e1, e2, e3⟩ := okTs_each (env := X.env) h
      refine ⟨fun pins s σ H v u Q I r ⟨ρ, tt, vs, d, ρ', hR, hl, hF, hQ⟩ => ?_⟩
      cases d with
      | tup ds =>
        simp only [setT] at hF
        obtain ⟨q0, q1⟩ := R.take1 (r := .val (.tup ds)) hR
        obtain ⟨a, xs, rfl, k1, k2⟩ := q1.tupV
        refine (pg_tup o.calm (pgs_ok o B tl es h) e1 e2).run pins s σ H _ u Q I r ⟨a, xs, rfl, k1, ?_, ρ, tt, vs, ds, ρ', q0, k2, hl, hF, fun σ' H' l1 l2 R' => hQ σ' H' l1 (fun j hj => l2 j (by simpa [T.slots] using hj)) R'⟩
        rw [k2.len, ← setTs_len hF, e3]
      | _ => simp [setT] at hF
theorem pgs_ok (o : XOk gi G tabs N sc ts k X) (B : Bs) : ∀ (tl : List T) (es : List Expr), okTs N ts tl es = true → PGs X es (gsD X.K B tl)
  | [], [], _ => ⟨fun pins s σ H vs us Q I r ⟨ρ, tt, vs0, ds, ρ', hR, hv, hl, hF, hQ⟩ => by
      cases ds with
      | cons _ _ => simp [setTs] at hF
      | nil =>
        simp only [setTs] at hF
        cases hF
        cases hv
        exact pgs_nil.run pins s σ H [] us Q I r ⟨rfl, hQ σ H rfl (fun _ _ => rfl) hR⟩⟩
  | [], _ :: _, h => by simp [okTs] at h
  | _ :: _, [], h => by simp [okTs] at h
  | t :: tl, x :: xs, h => by
    have h' := h
    simp only [okTs, Bool.and_eq_true] at h
    have hx : (assignEach (x :: xs) X.env).map (·.2) = assign x X.env :: (assignEach xs X.env).map (·.2) := by
      cases t with
      | nm i =>
        have h1 := h.1
        simp only [okT] at h1
        cases q : asName x with
        | none => rw [q] at h1; cases h1
        | some y => obtain ⟨p, rfl⟩ := asName_some q; rfl
      | tu tt =>
        have h1 := h.1
        simp only [okT] at h1
        cases q : asTup x with
        | none => rw [q] at h1; cases h1
        | some y => obtain ⟨k, p, rfl⟩ := asTup_some q; rfl
    refine ⟨fun pins s σ H vs us Q I r ⟨ρ, tt, vs0, ds, ρ', hR, hv, hl, hF, hQ⟩ => ?_⟩
    cases ds with
    | nil => simp [setTs] at hF
    | cons d ds =>
      simp only [setTs] at hF
      split at hF
      · rename_i ρ1 hρ1
        obtain ⟨v1, vs1, rfl, hv1, hv2⟩ := hv.inv
        · have hp : R X.K B (ρ ++ (tt ++ ds.map Sl.val)) (σ ++ (vs0 ++ vs1.map some)) H := by
            have := hR.pushAll hv2
            simpa using this
          have hv1' : Rp X.K (Mt B.Z (ρ ++ (tt ++ ds.map Sl.val)) (σ ++ (vs0 ++ vs1.map some))) H v1 d := rp_congr (fun a m => m.elim .inl fun ⟨j, s, k1, k2, k3⟩ => by
            rw [← List.append_assoc] at k1 k3
            rcases getA k1 with ⟨hj, k1⟩ | ⟨hj, k1⟩
            · rw [List.getElem?_append_left (by rw [← hR.len]; exact hj)] at k3
              exact .inr ⟨j, s, k1, k2, k3⟩
            · obtain ⟨d', _, rfl⟩ := get_map k1
              exact k2.elim) hv1
          refine (pgs_cons (pg_ok o B t x h.1) (pgs_ok o B tl xs h.2) hx).run pins s σ H _ us Q I r ⟨v1, vs1, rfl, ρ, tt ++ ds.map Sl.val, vs0 ++ vs1.map some, d, ρ1, hp.push_val hv1', hl, hρ1, fun σ1 H1 l1 l2 R1 => ?_⟩
          have R1' : R X.K B ((ρ1 ++ tt) ++ ds.map Sl.val) ((σ1 ++ vs0) ++ vs1.map some) H1 := by simpa using R1
          have hz : (ρ1 ++ tt).length = (σ1 ++ vs0).length := by
            have a := R1'.len
            have b := hv2.len
            simp at a ⊢; omega
          obtain ⟨q0, q1⟩ := R1'.takeVals hz
          have l3 : ρ1.length = σ1.length := by
            have a := hR.len
            simp at a hz; omega
          refine ⟨ρ1, tt, vs0, ds, ρ', q0, q1, l3, hF, fun σ2 H2 l4 l5 R2 => hQ σ2 H2 (by omega) (fun j hj => ?_) R2⟩
          simp only [T.slots.slotsL, List.mem_append, not_or] at hj
          rw [l5 j hj.2, l2 j hj.1]
      · cases hF
end
end
end Gw

set_option Elab.async false
set_option linter.all false
set_option maxRecDepth 100000
set_option maxHeartbeats 2000000
/-! The value layer, part 13: list comprehensions. -/
namespace Gw
open PySem L2

/-! ### wiping -/
theorem wipe_len (ρ : Env) : ∀ vs : List Nat, (wipe ρ vs).length = ρ.length
  | [] => rfl
  | v :: vs => by unfold wipe; rw [List.length_set, wipe_len ρ vs]
theorem wipe_in {ρ : Env} {j : Nat} : ∀ {vs : List Nat}, j ∈ vs → j < ρ.length → (wipe ρ vs)[j]? = some .no
  | [], h, _ => by cases h
  | v :: vs, h, hj => by
    unfold wipe
    by_cases e : v = j
    · subst e; rw [List.getElem?_set_self (by rw [wipe_len]; exact hj)]
    · rw [List.getElem?_set_ne e]
      rcases List.mem_cons.mp h with h | h
      · exact (e h.symm).elim
      · exact wipe_in h hj
theorem wipe_off {ρ : Env} {j : Nat} : ∀ {vs : List Nat}, j ∉ vs → (wipe ρ vs)[j]? = ρ[j]?
  | [], _ => rfl
  | v :: vs, h => by
    unfold wipe
    rw [List.getElem?_set_ne (fun e => h (by rw [e]; exact List.mem_cons_self))]
    exact wipe_off fun m => h (List.mem_cons_of_mem _ m)
theorem lwipe_len (σ : L2.St) (vs : List Nat) : (L2.wipe σ vs).length = σ.length := L2.wipe_length σ vs
theorem lwipe_in {σ : L2.St} {j : Nat} : ∀ {vs : List Nat}, j ∈ vs → j < σ.length → (L2.wipe σ vs)[j]? = some none
  | [], h, _ => by cases h
  | v :: vs, h, hj => by
    unfold L2.wipe
    by_cases e : v = j
    · subst e; rw [List.getElem?_set_self (by rw [L2.wipe_length]; exact hj)]
    · rw [List.getElem?_set_ne e]
      rcases List.mem_cons.mp h with h | h
      · exact (e h.symm).elim
      · exact lwipe_in h hj
theorem lwipe_eq {σ σ' : L2.St} {vs : List Nat} (hl : σ'.length = σ.length) (h : ∀ j, j ∉ vs → σ'[j]? = σ[j]?) : L2.wipe σ' vs = L2.wipe σ vs := by
  apply List.ext_getElem?
  intro j
  by_cases hj : j ∈ vs
  · by_cases hz : j < σ.length
    · rw [lwipe_in hj hz, lwipe_in hj (by omega)]
    · rw [List.getElem?_eq_none (by rw [L2.wipe_length]; omega), List.getElem?_eq_none (by rw [L2.wipe_length]; omega)]
  · rw [L2.wipe_out hj, L2.wipe_out hj, h j hj]
section
variable {K : PySem.W.Frag} {B : Bs} {ρ : Env} {σ : List (Option V)} {ss ts : List Sl} {vs ws : List (Option V)} {H : Hp}
theorem R.swap {s t : Sl} {x y : Option V} (r : R K B (ss ++ [s] ++ [t]) (vs ++ [x] ++ [y]) H) (hl : ss.length = vs.length) (hs : ∀ d, s ≠ .ref d) (ht : ∀ d, t ≠ .ref d) : R K B (ss ++ [t] ++ [s]) (vs ++ [y] ++ [x]) H := by
  have place : ∀ {j : Nat} {u a b : Sl}, (ss ++ [a] ++ [b])[j]? = some u → (j < ss.length ∧ ss[j]? = some u) ∨ (j = ss.length ∧ u = a) ∨ (j = ss.length + 1 ∧ u = b) := fun {j u a b} h => by
    rcases get1 h with ⟨hj, h⟩ | ⟨hj, e⟩
    · rcases get1 h with h | ⟨hj, e⟩
      · exact .inl h
      · exact .inr (.inl ⟨hj, e⟩)
    · simp at hj; exact .inr (.inr ⟨hj, e⟩)
  have v0 : ∀ {j : Nat} {a b : Option V}, j < ss.length → (vs ++ [a] ++ [b])[j]? = vs[j]? := fun {j a b} hj => by
    rw [List.append_assoc, List.getElem?_append_left (by omega)]
  have v1 : ∀ {a b : Option V}, (vs ++ [a] ++ [b])[ss.length]? = some a := fun {a b} => by
    rw [List.getElem?_append_left (by simp; omega), hl]; exact getEnd _ _
  have v2 : ∀ {a b : Option V}, (vs ++ [a] ++ [b])[ss.length + 1]? = some b := fun {a b} => by
    rw [show ss.length + 1 = (vs ++ [a]).length by simp [hl]]; exact getEnd _ _
  have s0 : ∀ {j : Nat} {a b : Sl}, j < ss.length → (ss ++ [a] ++ [b])[j]? = ss[j]? := fun {j a b} hj => by
    rw [List.append_assoc, List.getElem?_append_left hj]
  have s1 : ∀ {a b : Sl}, (ss ++ [a] ++ [b])[ss.length]? = some a := fun {a b} => by
    rw [List.getElem?_append_left (by simp)]; exact getEnd _ _
  have s2 : ∀ {a b : Sl}, (ss ++ [a] ++ [b])[ss.length + 1]? = some b := fun {a b} => by
    rw [show ss.length + 1 = (ss ++ [a]).length by simp]; exact getEnd _ _
  let f : Nat → Nat := fun j => if j < ss.length then j else if j = ss.length then ss.length + 1 else ss.length
  refine r.sel f (by simp [hl]) (fun j u h => .inr ?_) (fun i j u w h1 h2 _ _ e => ?_) (fun j d h => ?_) fun j d h => ?_
  · rcases place h with ⟨hj, h⟩ | ⟨rfl, rfl⟩ | ⟨rfl, rfl⟩
    · simp only [f, hj, if_true]
      exact ⟨(s0 hj).trans h, by rw [v0 hj, v0 hj]⟩
    · simp only [f, Nat.lt_irrefl, if_false, if_true]
      exact ⟨s2, by rw [v1, v2]⟩
    · have n1 : ¬ ss.length + 1 < ss.length := by omega
      have n2 : ¬ ss.length + 1 = ss.length := by omega
      simp only [f, n1, n2, if_false]
      exact ⟨s1, by rw [v1, v2]⟩
  · have hi : i ≤ ss.length + 1 := by have := lt_of_get h1; simp at this; omega
    have hj : j ≤ ss.length + 1 := by have := lt_of_get h2; simp at this; omega
    simp only [f] at e
    split at e <;> split at e <;> (try split at e) <;> (try split at e) <;> omega
  · rcases place h with ⟨hj, h⟩ | ⟨_, e⟩ | ⟨_, e⟩
    · simp only [f, hj, if_true]
    · exact (ht d e.symm).elim
    · exact (hs d e.symm).elim
  · rcases place h with ⟨hj, h⟩ | ⟨_, e⟩ | ⟨_, e⟩
    · rw [s0 hj]; exact h
    · exact (hs d e.symm).elim
    · exact (ht d e.symm).elim
/-- the block's names are forgotten on both sides -/
theorem R.wiped {sl : List Nat} {σ' : List (Option V)} (r : R K B (ρ ++ ts) (σ ++ vs) H) (hl : ρ.length = σ.length) (hl' : σ'.length = σ.length) (h : ∀ j, j ∉ sl → σ'[j]? = σ[j]?) (hra : ∀ j ∈ sl, B.ra j = none) : R K B (wipe ρ sl ++ ts) (σ' ++ vs) H := by
  have hw := wipe_len ρ sl
  have ht : ts.length = vs.length := by have := r.len; simp at this; omega
  refine r.sel (fun j => j) (by simp [hw, ht]; omega) (fun j s h1 => ?_) (fun i j _ _ _ _ _ _ e => e) (fun _ _ _ => rfl) fun j d h1 => ?_
  · rcases getA h1 with ⟨hj, h1⟩ | ⟨hj, h1⟩
    · rw [hw] at hj
      by_cases hm : j ∈ sl
      · rw [wipe_in hm hj] at h1
        cases h1; exact .inl rfl
      · rw [wipe_off hm] at h1
        refine .inr ⟨getL h1, ?_⟩
        rw [List.getElem?_append_left (by omega), List.getElem?_append_left (by omega)]
        exact h j hm
    · rw [hw] at hj h1
      refine .inr ⟨?_, ?_⟩
      · rw [List.getElem?_append_right hj]; exact h1
      · rw [List.getElem?_append_right (by omega), List.getElem?_append_right (by omega), hl']
  · obtain ⟨a, h0, _⟩ := r.ref j d h1
    have hm : j ∉ sl := fun m => by rw [hra j m] at h0; cases h0
    rcases getA h1 with ⟨hj, h1⟩ | ⟨hj, h1⟩
    · rw [List.getElem?_append_left (by rw [hw]; exact hj), wipe_off hm]; exact h1
    · rw [List.getElem?_append_right (by rw [hw]; exact hj), hw]; exact h1
theorem wipable_ra {sl : List Nat} (r : R K B (ρ ++ ts) (σ ++ vs) H) (h : wipable ρ sl = true) : ∀ j ∈ sl, B.ra j = none ∧ j < ρ.length := fun j hj => by
  unfold wipable at h
  have q := List.all_eq_true.mp h j hj
  rw [Bool.and_eq_true, decide_eq_true_eq] at q
  refine ⟨?_, q.1⟩
  cases e : B.ra j with
  | none => rfl
  | some a =>
    obtain ⟨d, hd⟩ := r.pin j a e
    rw [List.getElem?_append_left q.1] at hd
    have : ρ.at j = .ref d := by unfold Env.at; rw [hd]; rfl
    rw [this] at q
    cases q.2
end

/-! ### a block's context -/
section
variable {gi : GI} {G : Glo} {tabs : List Addr} {N : List Str} {sc ts : Scope} {k : Nat} {X : Cx}
theorem XOk.blk (o : XOk gi G tabs N sc ts k X) (scope : Scope) (s : Shared) (H : Hp) (C : Addr) (cl : List (Str × Addr)) (fp : List Addr) :
    XOk gi G tabs N (relS scope sc) scope k (X.blk s H scope (compEnvC scope cl C X.env) fp) where
  hN := o.hN
  sc := by
    show relS scope X.env.scope = _
    rw [o.sc]
  calm := o.calm
  nd := o.nd
  dbg := o.dbg
  room := o.room
  roomG := o.roomG
  code := o.code
  blt := o.blt
  fn := o.fn
  cst := o.cst
  fnm := fun x h => by
    rcases isLoc_iff h with q | q
    · have e : (relS scope X.env.scope).names.lookup x = some .local := lookup_relS_keep (by decide) q
      exact ⟨.inl e, .inr e⟩
    · have e : (relS scope X.env.scope).names.lookup x = some .cell := lookup_relS_keep (by decide) q
      refine ⟨.inr e, .inl ?_⟩
      show (scope.names.lookup x == some .cell) = true
      rw [q]; rfl

/-! ### conditions -/
def runC (G : Glo) (c : E) (ρ : Env) : Res (Bool × Env) := if c.isNop then .ok (true, ρ) else (runE G c ρ).bind fun p => truR p.1 p.2
def tCnd (K : PySem.W.Frag) (B : Bs) (G : Glo) (c : E) : TT := fun σ H Q => ∃ (ρ : Env) (ts : List Sl) (vs : List (Option V)) (b : Bool) (ρ' : Env),
  R K B (ρ ++ ts) (σ ++ vs) H ∧ ρ.length = σ.length ∧ runC G c ρ = .ok (b, ρ') ∧ ∀ H', R K B (ρ' ++ ts) (σ ++ vs) H' → Q b H'
theorem snd_ifs {c : E} {ifs : List Expr} (h : (match ifs with | [] => c.isNop | [y] => !c.isNop && okE gi N sc c y | _ => false) = true) (ih : ∀ y, okE gi N sc c y = true → ST tabs X y (runE G c)) (B : Bs) (hB : B.tabs = tabs) : PTs X ifs (tCnd X.K B G c) := by
  match ifs, h with
  | [], h =>
    refine ⟨fun pins s σ H Q I ⟨ρ, tt, vs, b, ρ', hR, hl, hF, hQ⟩ => ?_⟩
    unfold runC at hF
    rw [if_pos h] at hF
    cases hF
    exact (pts_nil (X := X)).run pins s σ H Q I (hQ H hR)
  | [y], h =>
    rw [Bool.and_eq_true] at h
    have hn : c.isNop = false := by simpa using h.1
    refine ⟨fun pins s σ H Q I ⟨ρ, tt, vs, b, ρ', hR, hl, hF, hQ⟩ => ?_⟩
    unfold runC at hF
    rw [if_neg (by simp [hn])] at hF
    obtain ⟨⟨r, ρ1⟩, g1, hF⟩ := Res.bind_ok hF
    unfold truR at hF
    obtain ⟨b', g2, hF⟩ := Res.bind_ok hF
    cases hF
    exact (pts_one (ih y h.2 B hB)).run pins s σ H Q I ⟨ρ, tt, vs, r, ρ1, _, hR, hl, g1, Res.of_ok g2, hQ⟩

/-! ### the loop of one clause -/
def runL (G : Glo) (elt : E) (ρ : Env) : Res (List D × Env) := (runE G elt ρ).bind fun q => .ok ([q.1.d], q.2)
theorem runE_lc (elt : E) (t : T) (it : I) (c : E) (ρ : Env) : runE G (.lc elt t it c) ρ = (runI G it ρ).bind fun s => if wipable s.2.1 t.slots then
      (loopC (turnC (setT t) t.slots (runC G c) (runL G elt)) s.1 [] (wipe s.2.1 t.slots)).bind fun z => (back s.2.2 z.2).bind fun ρ' => .ok (.own (.lst z.1), ρ') else .stuck := by
  simp only [runE]; rfl
/-- behind a loop: the moved container goes home -/
theorem R.home {K : PySem.W.Frag} {B : Bs} {mv : Option (Nat × D)} {s : Sl} {v : Option V} {σ vs : List (Option V)} {ρ ρ' : Env} {ts : List Sl} {H : Hp} (hH : Held mv s v σ) (hb : Gw.back mv ρ = .ok ρ') (hl : ρ.length = σ.length) (r : R K B (ρ ++ ts ++ [s]) (σ ++ vs ++ [v]) H) : R K B (ρ' ++ ts) (σ ++ vs) H := by
  cases mv with
  | none =>
    cases hb
    exact r.pop hH
  | some p =>
    obtain ⟨i, c⟩ := p
    obtain ⟨rfl, hv⟩ := hH
    simp only [Gw.back] at hb
    have hi : i < σ.length := lt_of_get hv
    split at hb
    · rename_i hno
      cases hb
      have g : ρ[i]? = some .no := by rw [at_get (by omega), hno]
      have q := r.moveIn (fun d e => by cases e) (getL g)
      rw [set_left (by omega), set_left hi] at q
      have e : σ.set i v = σ := by
        apply List.ext_getElem?
        intro j
        by_cases e : i = j
        · subst e; rw [List.getElem?_set_self hi, hv]
        · rw [List.getElem?_set_ne e]
      rw [e] at q
      exact q
    · cases hb
theorem back_len {mv : Option (Nat × D)} {ρ ρ' : Env} (hb : back mv ρ = .ok ρ') : ρ'.length = ρ.length := by
  cases mv with
  | none => cases hb; rfl
  | some p =>
    simp only [Gw.back] at hb
    split at hb
    · cases hb; simp
    · cases hb
theorem loopC_len {turn : D → Env → Res (List D × Env)} : ∀ {ds acc z : List D} {ρ ρ' : Env}, loopC turn ds acc ρ = .ok (z, ρ') → acc.length ≤ z.length
  | [], acc, z, ρ, ρ', h => by simp only [loopC] at h; cases h; exact Nat.le_refl _
  | d :: ds, acc, z, ρ, ρ', h => by
    simp only [loopC] at h
    obtain ⟨p, _, h⟩ := Res.bind_ok h
    split at h
    · have := loopC_len h
      simp at this; omega
    · cases h
theorem set_top {α : Type} (a b c : List α) (x y : α) : (a ++ (b ++ [x] ++ c)).set (a ++ b).length y = a ++ (b ++ [y] ++ c) := by
  rw [show a ++ (b ++ [x] ++ c) = (a ++ b) ++ ([x] ++ c) by simp, List.set_append_right _ _ (Nat.le_refl _)]
  simp
/-- the loop of one clause; TT: what else is held, by what has been made so far -/
theorem loop_read {B : Bs} {J : It} {ds : List D} {s : Sl} {v : Option V} {σ VV : List (Option V)} {t : T} {c : E} {TT : List D → List Sl} {sl : List Nat} {F : Env → Res (List D × Env)} {accF acc0 : List D} {ρF ρ0 : Env} {H1 : Hp} {bd : L2.St → Hp → (Hp → Prop) → Prop} {Fin : Hp → Prop}
    (hT : ∀ acc, (TT acc).length = VV.length) (wk : ∀ B', Wk X.K B' J ds s v) (hra : ∀ j ∈ sl, B.ra j = none ∧ j < σ.length) (l0 : ρ0.length = σ.length) (R0 : R X.K B (wipe ρ0 sl ++ TT acc0 ++ [s]) (L2.wipe σ sl ++ VV ++ [v]) H1)
    (g2 : loopC (turnC (setT t) sl (runC G c) F) ds acc0 (wipe ρ0 sl) = .ok (accF, ρF)) (hsl : ∀ j ∈ t.slots, j ∈ sl)
    (hbd : ∀ (ρ3 ρ5 : Env) (acc ys : List D) (σ2 : L2.St) (H3 : Hp) (Nx : Hp → Prop), σ2.length = σ.length → ρ3.length = σ2.length → R X.K B (ρ3 ++ TT acc ++ [s]) (σ2 ++ VV ++ [v]) H3 → F ρ3 = .ok (ys, ρ5) → lineOk (acc.length + ys.length) = true → acc.length + ys.length ≤ accF.length →
      (∀ H', R X.K B (ρ5 ++ TT (acc ++ ys) ++ [s]) (σ2 ++ VV ++ [v]) H' → Nx H') → bd σ2 H3 Nx)
    (hfin : ∀ H5, ρF.length = σ.length → R X.K B (ρF ++ TT accF ++ [s]) (σ ++ VV ++ [v]) H5 → Fin H5) :
    ∃ W : Nat → Nat → Hp → Prop, (∃ m, W 0 m H1) ∧ ∀ i m H, W i m H → (J.stop i H ∧ Fin H) ∨ (J.go i H ∧ ∃ Nx : Hp → Prop, (∀ H', Nx H' → ∃ m', m' < m ∧ W (i + 1) m' H') ∧
      ∀ x H', J.yld i H x H' → gD X.K B t x (L2.wipe σ sl) H' fun σ2 H2 => L2.wipe σ2 sl = L2.wipe σ sl ∧ tCnd X.K B G c σ2 H2 fun b H3 => if b = true then bd σ2 H3 Nx else Nx H3) := by
  refine ⟨fun i m H => m = ds.length - i ∧ i ≤ ds.length ∧ ∃ (ρi : Env) (acc : List D), ρi.length = σ.length ∧ (∀ j ∈ sl, ρi[j]? = some .no) ∧
      R X.K B (ρi ++ TT acc ++ [s]) (L2.wipe σ sl ++ VV ++ [v]) H ∧ loopC (turnC (setT t) sl (runC G c) F) (ds.drop i) acc ρi = .ok (accF, ρF), ⟨ds.length, rfl, Nat.zero_le _, wipe ρ0 sl, acc0, by simp [wipe_len, l0], fun j hj => wipe_in hj (by have := (hra j hj).2; omega), R0, g2⟩, ?_⟩
  rintro i m H5 ⟨rfl, hi, ρi, acc, li, hno, R5, gl⟩
  have l5 : (ρi ++ TT acc).length = (L2.wipe σ sl ++ VV).length := by simp [li, L2.wipe_length, hT]
  by_cases hlt2 : i < ds.length
  · right
    obtain ⟨d, hd⟩ : ∃ d, ds[i]? = some d := ⟨ds[i], List.getElem?_eq_getElem hlt2⟩
    have hdr : ds.drop i = d :: ds.drop (i + 1) := by
      rw [List.drop_eq_getElem_cons hlt2]
      rw [List.getElem?_eq_getElem hlt2] at hd
      cases hd; rfl
    rw [hdr] at gl
    simp only [loopC] at gl
    obtain ⟨⟨ys, ρn⟩, g4, gl⟩ := Res.bind_ok gl
    by_cases hz : lineOk (acc.length + ys.length) = true
    · simp only [hz, if_true] at gl
      simp only [turnC] at g4
      obtain ⟨ρ2, g5, g4⟩ := Res.bind_ok g4
      have g5 := Res.of_ok g5
      obtain ⟨⟨b, ρ3⟩, g6, g4⟩ := Res.bind_ok g4
      refine ⟨(wk B).go i _ _ H5 hlt2 l5 R5, fun H' => ∃ (ρi : Env) (acc : List D), ρi.length = σ.length ∧ (∀ j ∈ sl, ρi[j]? = some .no) ∧ R X.K B (ρi ++ TT acc ++ [s]) (L2.wipe σ sl ++ VV ++ [v]) H' ∧ loopC (turnC (setT t) sl (runC G c) F) (ds.drop (i + 1)) acc ρi = .ok (accF, ρF), fun H' ⟨ρi', acc', q1, q2, q3, q4⟩ => ⟨ds.length - (i + 1), by omega, rfl, hlt2, ρi', acc', q1, q2, q3, q4⟩, fun x H' y => ?_⟩
      have R6 := (wk B).yld i _ _ H5 x H' d hd l5 R5 y
      refine ⟨ρi, TT acc ++ [s], VV ++ [v], d, ρ2, by simpa using R6, by simp [li, L2.wipe_length], g5, fun σ2 H2 s1 s2 R7 => ?_⟩
      rw [L2.wipe_length] at s1
      have s3 : ∀ j, j ∉ sl → σ2[j]? = σ[j]? := fun j hj => by rw [s2 j (fun m => hj (hsl j m)), L2.wipe_out hj]
      refine ⟨lwipe_eq s1 s3, ?_⟩
      have l7 : ρ2.length = σ2.length := by have a := R7.len; have b := hT acc; simp at a; omega
      refine ⟨ρ2, TT acc ++ [s], VV ++ [v], b, ρ3, R7, l7, g6, fun H3 R8 => ?_⟩
      have l8 : ρ3.length = σ2.length := by have a := R8.len; have b := hT acc; simp at a; omega
      have fin : ∀ {ρe : Env} {acc' : List D} {He : Hp}, ρe.length = σ2.length → R X.K B (ρe ++ TT acc' ++ [s]) (σ2 ++ VV ++ [v]) He → R X.K B (wipe ρe sl ++ TT acc' ++ [s]) (L2.wipe σ sl ++ VV ++ [v]) He := fun {ρe acc' He} le Re => by
        have q : R X.K B (ρe ++ (TT acc' ++ [s])) (σ2 ++ (VV ++ [v])) He := by simpa using Re
        have q2 := q.wiped (sl := sl) (σ' := L2.wipe σ sl) le (by rw [L2.wipe_length, s1]) (fun j hj => by rw [L2.wipe_out hj, s3 j hj]) fun j hj => (hra j hj).1
        simpa using q2
      have R8' : R X.K B (ρ3 ++ TT acc ++ [s]) (σ2 ++ VV ++ [v]) H3 := by simpa using R8
      cases b with
      | false =>
        simp only [Bool.false_eq_true, if_false] at g4 ⊢
        cases g4
        rw [List.append_nil] at gl
        exact ⟨wipe ρ3 sl, acc, by rw [wipe_len]; omega, fun j hj => wipe_in hj (by have := (hra j hj).2; omega), fin l8 R8', gl⟩
      | true =>
        simp only [if_true] at g4 ⊢
        obtain ⟨⟨ys', ρ5⟩, g7, g4⟩ := Res.bind_ok g4
        cases g4
        refine hbd ρ3 ρ5 acc ys' σ2 H3 _ s1 l8 R8' g7 hz (by have := loopC_len gl; simp at this; omega) fun H' R10 => ?_
        have l9 : ρ5.length = σ2.length := by have a := R10.len; have b := hT (acc ++ ys'); simp at a; omega
        exact ⟨wipe ρ5 sl, acc ++ ys', by rw [wipe_len]; omega, fun j hj => wipe_in hj (by have := (hra j hj).2; omega), fin l9 R10, gl⟩
    · simp only [hz] at gl; cases gl
  · left
    have e : i = ds.length := by omega
    subst e
    rw [List.drop_length] at gl
    simp only [loopC] at gl
    cases gl
    refine ⟨(wk B).stop _ _ H5 l5 R5, ?_⟩
    have R6 : R X.K B (ρF ++ TT accF ++ [s]) (σ ++ VV ++ [v]) H5 := by
      refine R5.unwipe (by simp [L2.wipe_length]) fun j => ?_
      by_cases hj : j ∈ sl
      · right
        exact getL (getL (hno j hj))
      · left
        simp only [List.append_assoc]
        by_cases hz : j < σ.length
        · rw [List.getElem?_append_left hz, List.getElem?_append_left (by rw [L2.wipe_length]; exact hz), L2.wipe_out hj]
        · rw [List.getElem?_append_right (l₁ := σ) (by omega), List.getElem?_append_right (l₁ := L2.wipe σ sl) (by rw [L2.wipe_length]; omega), L2.wipe_length]
    exact hfin H5 li R6
/-- an element behind the list at Da -/
theorem elt_read {B : Bs} {elt : E} {ρ3 ρ5 : Env} {acc ys : List D} {tt uu : List Sl} {σ2 vs ws : List (Option V)} {Da : Addr} {H3 : Hp} {Nx : Hp → Prop} (hlt : tt.length = vs.length) (l8 : ρ3.length = σ2.length)
    (R8 : R X.K B (ρ3 ++ (tt ++ [.own (.lst acc)] ++ uu)) (σ2 ++ (vs ++ [some (.ref Da)] ++ ws)) H3) (g7 : runL G elt ρ3 = .ok (ys, ρ5)) (hz : acc.length + ys.length ≤ sizeLine)
    (hN : ∀ H', R X.K B (ρ5 ++ (tt ++ [.own (.lst (acc ++ ys))] ++ uu)) (σ2 ++ (vs ++ [some (.ref Da)] ++ ws)) H' → Nx H') :
    tE X.K B (runE G elt) σ2 H3 fun y H4 => ∃ xs, H4 Da = some (.lst xs) ∧ xs.length < sizeLine ∧ Nx (upd H4 Da (.lst (xs ++ [y]))) := by
  unfold runL at g7
  obtain ⟨⟨re, ρ4⟩, g8, g7⟩ := Res.bind_ok g7
  cases g7
  refine ⟨ρ3, tt ++ [.own (.lst acc)] ++ uu, vs ++ [some (.ref Da)] ++ ws, re, ρ4, R8, l8, g8, fun y H4 R9 => ?_⟩
  obtain ⟨q0, q1⟩ := R9.take1
  have l9 : ρ4.length = σ2.length := by have a := q0.len; have b := R8.len; simp at a b; omega
  have gi1 : (ρ4 ++ (tt ++ [Sl.own (.lst acc)] ++ uu))[(ρ4 ++ tt).length]? = some (.own (.lst acc)) := by
    rw [show ρ4 ++ (tt ++ [Sl.own (.lst acc)] ++ uu) = (ρ4 ++ tt) ++ [Sl.own (.lst acc)] ++ uu by simp]
    exact getL (getEnd _ _)
  have gv1 : (σ2 ++ (vs ++ [some (V.ref Da)] ++ ws))[(ρ4 ++ tt).length]? = some (some (.ref Da)) := by
    rw [show σ2 ++ (vs ++ [some (V.ref Da)] ++ ws) = (σ2 ++ vs) ++ [some (V.ref Da)] ++ ws by simp, show (ρ4 ++ tt).length = (σ2 ++ vs).length by simp [l9, hlt]]
    exact getL (getEnd _ _)
  obtain ⟨a', k1, k2, _⟩ := q0.own _ _ gi1
  rw [gv1] at k1; cases k1
  obtain ⟨xs, k3, k4⟩ := k2
  have hlen : acc.length < sizeLine := by simp at hz; omega
  refine ⟨xs, k3, by rw [k4.len]; exact hlen, ?_⟩
  have ma : Mt B.Z (ρ4 ++ (tt ++ [Sl.own (.lst acc)] ++ uu)) (σ2 ++ (vs ++ [some (V.ref Da)] ++ ws)) Da := .inr ⟨_, _, gi1, trivial, gv1⟩
  have stay : Stay (Mt B.Z (ρ4 ++ (tt ++ [Sl.own (.lst acc)] ++ uu)) (σ2 ++ (vs ++ [some (V.ref Da)] ++ ws))) H4 (upd H4 Da (.lst (xs ++ [y]))) := fun b o hb n _ => by
    have ne : b ≠ Da := fun e => n (by rw [e]; exact ma)
    rw [upd_ne ne]; exact hb
  have R10 := q0.mutate (s := .own (.lst acc)) (s' := .own (.lst (acc ++ [re.d]))) (d' := .lst (acc ++ [re.d])) (o' := .lst (xs ++ [y])) gi1 (.inl ⟨rfl, rfl⟩) gv1
    ⟨xs ++ [y], upd_same, (k4.mono stay fun a m => .inl m).append (.cons (q1.mono stay fun a m => .inl m) .nil)⟩
  rw [set_top] at R10
  exact hN _ R10
/-- the block's start -/
theorem lc_start {B : Bs} {σ vs : List (Option V)} {ρ1 : Env} {tt : List Sl} {s : Sl} {v : Option V} {H1 : Hp} {sl : List Nat} {Da : Addr} (R1 : R X.K B (ρ1 ++ tt ++ [s]) (σ ++ vs ++ [v]) H1) (l1 : ρ1.length = σ.length) (hs : ∀ d, s ≠ .ref d) (hw : wipable ρ1 sl = true) (hD : H1 Da = none) :
    (∀ j ∈ sl, B.ra j = none ∧ j < σ.length) ∧ R X.K B (wipe ρ1 sl ++ (tt ++ [.own (.lst [])]) ++ [s]) (L2.wipe σ sl ++ (vs ++ [some (.ref Da)]) ++ [v]) (upd H1 Da (.lst [])) := by
  have R1a : R X.K B (ρ1 ++ (tt ++ [s])) (σ ++ (vs ++ [v])) H1 := by simpa using R1
  have hlt : tt.length = vs.length := by have a := R1.len; simp at a; omega
  have hra := wipable_ra R1a hw
  have R2 : R X.K B (wipe ρ1 sl ++ (tt ++ [s])) (L2.wipe σ sl ++ (vs ++ [v])) H1 := R1a.wiped l1 (L2.wipe_length _ _) (fun j hj => L2.wipe_out hj) fun j hj => (hra j hj).1
  have R3 : R X.K B ((wipe ρ1 sl ++ tt) ++ [s] ++ [.own (.lst [])]) ((L2.wipe σ sl ++ vs) ++ [v] ++ [some (.ref Da)]) (upd H1 Da (.lst [])) := by
    have q := R2.push_own (d := .lst []) hD (Grow.new hD) ⟨[], upd_same, .nil⟩
    simpa using q
  have lw : (wipe ρ1 sl ++ tt).length = (L2.wipe σ sl ++ vs).length := by simp [wipe_len, L2.wipe_length, l1, hlt]
  have R4 := R3.swap lw hs (fun d e => by cases e)
  exact ⟨fun j hj => ⟨(hra j hj).1, by have := (hra j hj).2; omega⟩, by simpa using R4⟩
theorem lc_read {elt : E} {t : T} {it : I} {c : E} {B : Bs} {σ : L2.St} {H : Hp} {Q : VK} (h : tE X.K B (runE G (.lc elt t it c)) σ H Q) :
    tLc (iD X.K B (runI G it)) (gD X.K B t) (tCnd X.K B G c) (tE X.K B (runE G elt)) t.slots σ H Q := by
  obtain ⟨ρ, tt, vs, r, ρ', hR, hl, hF, hQ⟩ := h
  rw [runE_lc] at hF
  obtain ⟨⟨ds, ρ1, mv⟩, g1, hF⟩ := Res.bind_ok hF
  by_cases hw : wipable ρ1 t.slots = true
  · simp only [hw, if_true] at hF
    obtain ⟨⟨accF, ρF⟩, g2, hF⟩ := Res.bind_ok hF
    obtain ⟨ρb, g3, hF⟩ := Res.bind_ok hF
    cases hF
    refine ⟨ρ, tt, vs, ds, ρ1, mv, hR, hl, g1, fun J H1 s v hH R1 wk Da hD => ?_⟩
    have hlt : tt.length = vs.length := by have a := hR.len; simp at a; omega
    have l1 : ρ1.length = σ.length := by have a := hR.len; have b := R1.len; simp at a b; omega
    obtain ⟨hra, R4⟩ := lc_start R1 l1 hH.noref hw hD
    refine loop_read (TT := fun acc => tt ++ [.own (.lst acc)]) (VV := vs ++ [some (.ref Da)]) (bd := fun σ2 H3 Nx => tE X.K B (runE G elt) σ2 H3 fun y H4 => ∃ xs, H4 Da = some (.lst xs) ∧ xs.length < sizeLine ∧ Nx (upd H4 Da (.lst (xs ++ [y])))) (by simp [hlt]) wk hra l1 R4 g2 (fun _ h => h) (fun ρ3 ρ5 acc ys σ2 H3 Nx s1 l8 R8 g7 hz _ hN => ?_) fun H5 l5 R5 => ?_
    · refine elt_read (uu := [s]) (ws := [v]) hlt l8 (by simpa using R8) g7 (lineOk_iff hz) fun H' R' => hN H' (by simpa using R')
    · have R8 := R5.home hH g3 l5
      refine hQ _ H5 ?_
      show R X.K B (ρ' ++ tt ++ [Sl.own (.lst accF)]) _ _
      simpa using R8
  · simp only [hw] at hF; cases hF
/-- a loop's elements behind others -/
theorem runE_lc2 (elt : E) (t : T) (it : I) (c : E) (t' : T) (it' : I) (c' : E) (ρ : Env) : runE G (.lc2 elt t it c t' it' c') ρ = (runI G it ρ).bind fun s => if wipable s.2.1 (t.slots ++ t'.slots) then
      (loopC (turnC (setT t) (t.slots ++ t'.slots) (runC G c) (fun ρ => (runI G it' ρ).bind fun s' => if wipable s'.2.1 t'.slots then (loopC (turnC (setT t') t'.slots (runC G c') (runL G elt)) s'.1 [] (wipe s'.2.1 t'.slots)).bind fun z =>
        (Gw.back s'.2.2 z.2).bind fun ρ' => .ok (z.1, ρ') else .stuck)) s.1 [] (wipe s.2.1 (t.slots ++ t'.slots))).bind fun z => (Gw.back s.2.2 z.2).bind fun ρ' => .ok (.own (.lst z.1), ρ') else .stuck := by
  simp only [runE]; rfl
theorem lc2_read {elt : E} {t t' : T} {it it' : I} {c c' : E} {B : Bs} {σ : L2.St} {H : Hp} {Q : VK} (h : tE X.K B (runE G (.lc2 elt t it c t' it' c')) σ H Q) :
    tLc2 (iD X.K B (runI G it)) (gD X.K B t) (tCnd X.K B G c) (iD X.K B (runI G it')) (gD X.K B t') (tCnd X.K B G c') (tE X.K B (runE G elt)) (t.slots ++ t'.slots) t'.slots σ H Q := by
  obtain ⟨ρ, tt, vs, r, ρ', hR, hl, hF, hQ⟩ := h
  rw [runE_lc2] at hF
  obtain ⟨⟨ds, ρ1, mv⟩, g1, hF⟩ := Res.bind_ok hF
  by_cases hw : wipable ρ1 (t.slots ++ t'.slots) = true
  · simp only [hw, if_true] at hF
    obtain ⟨⟨accF, ρF⟩, g2, hF⟩ := Res.bind_ok hF
    obtain ⟨ρb, g3, hF⟩ := Res.bind_ok hF
    cases hF
    refine ⟨ρ, tt, vs, ds, ρ1, mv, hR, hl, g1, fun J H1 s v hH R1 wk Da hD => ?_⟩
    have hlt : tt.length = vs.length := by have a := hR.len; simp at a; omega
    have l1 : ρ1.length = σ.length := by have a := hR.len; have b := R1.len; simp at a b; omega
    obtain ⟨hra, R4⟩ := lc_start R1 l1 hH.noref hw hD
    refine loop_read (TT := fun acc => tt ++ [.own (.lst acc)]) (VV := vs ++ [some (.ref Da)]) (bd := fun σ2 H3 Nx => iD X.K B (runI G it') σ2 H3 fun J1 H4 => ∃ W1 : Nat → Nat → Hp → Prop, (∃ m, W1 0 m H4) ∧ ∀ j k H, W1 j k H →
      (J1.stop j H ∧ Nx H) ∨ (J1.go j H ∧ ∃ Nx1 : Hp → Prop, (∀ H', Nx1 H' → ∃ k', k' < k ∧ W1 (j + 1) k' H') ∧ ∀ x H', J1.yld j H x H' → gD X.K B t' x (L2.wipe σ2 t'.slots) H' fun σ3 H5 => L2.wipe σ3 t'.slots = L2.wipe σ2 t'.slots ∧ tCnd X.K B G c' σ3 H5 fun b H6 =>
        if b = true then tE X.K B (runE G elt) σ3 H6 fun y H7 => ∃ acc, H7 Da = some (.lst acc) ∧ acc.length < sizeLine ∧ Nx1 (upd H7 Da (.lst (acc ++ [y]))) else Nx1 H6)) (by simp [hlt]) wk hra l1 R4 g2 (fun _ h => List.mem_append_left _ h) (fun ρ3 ρ5 acc ys σ2 H3 Nx s1 l8 R8 g7 hz _ hN => ?_) fun H5 l5 R5 => ?_
    · obtain ⟨⟨ds', ρ6, mv'⟩, g8, g7⟩ := Res.bind_ok g7
      by_cases hw' : wipable ρ6 t'.slots = true
      · simp only [hw', if_true] at g7
        obtain ⟨⟨ysF, ρ7⟩, g9, g7⟩ := Res.bind_ok g7
        obtain ⟨ρ8, g10, g7⟩ := Res.bind_ok g7
        cases g7
        refine ⟨ρ3, tt ++ [.own (.lst acc)] ++ [s], vs ++ [some (.ref Da)] ++ [v], ds', ρ6, mv', by simpa using R8, l8, g8, fun J1 H4 s' v' hH' R9 wk' => ?_⟩
        have l9 : ρ6.length = σ2.length := by have a := R9.len; have b := R8.len; simp at a b; omega
        have R9a : R X.K B (ρ6 ++ ((tt ++ [.own (.lst acc)] ++ [s]) ++ [s'])) (σ2 ++ ((vs ++ [some (.ref Da)] ++ [v]) ++ [v'])) H4 := by simpa using R9
        have hra' := wipable_ra R9a hw'
        have R9b := R9a.wiped (sl := t'.slots) (σ' := L2.wipe σ2 t'.slots) l9 (L2.wipe_length _ _) (fun j hj => L2.wipe_out hj) fun j hj => (hra' j hj).1
        refine loop_read (TT := fun acc' => tt ++ [.own (.lst (acc ++ acc'))] ++ [s]) (VV := vs ++ [some (.ref Da)] ++ [v]) (acc0 := []) (bd := fun σ3 H6 Nx1 => tE X.K B (runE G elt) σ3 H6 fun y H7 => ∃ xs, H7 Da = some (.lst xs) ∧ xs.length < sizeLine ∧ Nx1 (upd H7 Da (.lst (xs ++ [y])))) (by simp [hlt]) wk' (fun j hj => ⟨(hra' j hj).1, by have := (hra' j hj).2; omega⟩) l9 (by simpa using R9b) g9 (fun _ h => h) (fun ρa ρb acc' ys' σ3 H6 Nx1 s1' l8' Ra ga hz' hz2 hN' => ?_) fun H5 l5 R5 => ?_
        · have hz3 := lineOk_iff hz
          refine elt_read (acc := acc ++ acc') (uu := [s] ++ [s']) (ws := [v] ++ [v']) hlt l8' (by simpa using Ra) ga (by simp; simp at hz3; omega) fun H' R' => hN' H' ?_
          simpa using R'
        · have R10 := R5.home hH' g10 l5
          exact hN H5 (by simpa using R10)
      · simp only [hw'] at g7; cases g7
    · have R8 := R5.home hH g3 l5
      refine hQ _ H5 ?_
      show R X.K B (ρ' ++ tt ++ [Sl.own (.lst accF)]) _ _
      simpa using R8
  · simp only [hw] at hF; cases hF

/-! ### as expressions -/
theorem own_slots (N : List Str) (is : List Nat) : (ownOf N is).map (·.2) = is := by
  unfold ownOf; rw [List.map_map]; exact List.map_id' is
theorem notsetI {x : Expr} (h : isSetE x = false) (env : PySem.Env) : ∀ v, foldedSetIterable x env v = pure v := fun v => by
  cases x <;> first | rfl | (simp [isSetE] at h)
theorem okI_set {it : I} {x tg : Expr} (h : okI gi N sc it x tg = true) : isSetE x = false := by
  cases it with
  | frz e => simp only [okI, Bool.and_eq_true, Bool.not_eq_true'] at h; exact h.1
  | mov i => simp only [okI] at h; exact (okV_set h).1
  | rng es =>
    simp only [okI] at h
    cases e : asCall x with
    | none => rw [e] at h; cases h
    | some z => obtain ⟨f, l⟩ := z; obtain ⟨p, pos, rfl⟩ := asCall_some e; rfl
  | rev es =>
    simp only [okI] at h
    cases e : asCall x with
    | none => rw [e] at h; cases h
    | some z => obtain ⟨f, l⟩ := z; obtain ⟨p, pos, rfl⟩ := asCall_some e; rfl
  | enm e => simp [okI] at h
  | zip a b => simp [okI] at h
/-- what the induction gives for the parts, in any context -/
structure IH (gi : GI) (G : Glo) (tabs : List Addr) (N : List Str) (e : E) : Prop where
  se : ∀ {sc ts : Scope} {k : Nat} {X : Cx}, XOk gi G tabs N sc ts k X → ∀ y, okE gi N sc e y = true → SE tabs X y (runE G e)
  st : ∀ {sc ts : Scope} {k : Nat} {X : Cx}, XOk gi G tabs N sc ts k X → ∀ y, okE gi N sc e y = true → ST tabs X y (runE G e)
def IHI (gi : GI) (G : Glo) (tabs : List Addr) (N : List Str) (it : I) : Prop := ∀ {sc ts : Scope} {k : Nat} {X : Cx}, XOk gi G tabs N sc ts k X → ∀ tg y, okI gi N sc it y tg = true → SI tabs X tg y (runI G it)
def IHs (gi : GI) (G : Glo) (tabs : List Addr) (N : List Str) (es : Es) : Prop := ∀ {sc ts : Scope} {k : Nat} {X : Cx}, XOk gi G tabs N sc ts k X → ∀ l, okEs gi N sc es l = true → SA tabs X l (runEs G es)
theorem snd_lc (o : XOk gi G tabs N sc ts k X) {elt c : E} {t : T} {it : I} {x : Expr} (h : okE gi N sc (.lc elt t it c) x = true) (ihi : IHI gi G tabs N it) (ihc : IH gi G tabs N c) (ihe : IH gi G tabs N elt) : SE tabs X x (runE G (.lc elt t it c)) := fun B hB => by
  simp only [okE] at h
  cases e : asLC x with
  | none => rw [e] at h; cases h
  | some z =>
    rw [e] at h
    simp only [Bool.and_eq_true] at h
    obtain ⟨pos, rfl⟩ := asLC_some e
    obtain ⟨⟨⟨⟨h1, h2⟩, h3⟩, h4⟩, h5⟩ := h
    have ob := fun s H C cl fp => o.blk z.scope s H C cl fp
    have q := pe_lc (X := X) (pos := pos) (own := ownOf N t.slots) (tg := z.tg) (elt := z.elt) (te := tE X.K B (runE G elt)) (tt := tCnd X.K B G c) (g := gD X.K B t) o.calm (by rw [o.hN]; exact o.nd) (ihi o z.tg z.iter h2 B hB) (by rw [o.hN, o.sc]; exact blkOk_by h1) (fun s H C cl fp => pg_ok (ob s H C cl fp) B t z.tg h3) (fun s H C cl fp => snd_ifs h4 (ihc.st (ob s H C cl fp)) B hB) (fun s H C cl fp => ihe.se (ob s H C cl fp) z.elt h5 B hB) (notsetI (okI_set h2) _)
    rw [own_slots] at q
    exact q.imp fun σ H Q hq => lc_read hq
theorem snd_setLc (o : XOk gi G tabs N sc ts k X) {elt c : E} {t : T} {it : I} {x : Expr} (h : okE gi N sc (.lc elt t it c) x = true) (ihi : IHI gi G tabs N it) (ihc : IH gi G tabs N c) (ihe : IH gi G tabs N elt) {i : Nat} {y : Str} {py spos : Pos} (hy : N[i]? = some y) (hyl : sc.names.lookup y = some .local)
    (hsw : swapsWith x (some (.Name y py)) spos.line X.env = pure true) (B : Bs) (hB : B.tabs = tabs) : PS X (.Assign [.Name y py] x spos) (tAsg (tE X.K B (runE G (.lc elt t it c))) (gName i)) := by
  simp only [okE] at h
  cases e : asLC x with
  | none => rw [e] at h; cases h
  | some z =>
    rw [e] at h
    simp only [Bool.and_eq_true] at h
    obtain ⟨pos, rfl⟩ := asLC_some e
    obtain ⟨⟨⟨⟨h1, h2⟩, h3⟩, h4⟩, h5⟩ := h
    have ob := fun s H C cl fp => o.blk z.scope s H C cl fp
    have q := ps_setLc (X := X) (i := i) (y := y) (py := py) (spos := spos) (pos := pos) (own := ownOf N t.slots) (tg := z.tg) (elt := z.elt) (te := tE X.K B (runE G elt)) (tt := tCnd X.K B G c) (g := gD X.K B t) o.calm (by rw [o.hN]; exact o.nd) (by rw [o.hN]; exact hy) (by rw [o.sc]; exact hyl) hsw (ihi o z.tg z.iter h2 B hB) (by rw [o.hN, o.sc]; exact blkOk_by h1) (fun s H C cl fp => pg_ok (ob s H C cl fp) B t z.tg h3) (fun s H C cl fp => snd_ifs h4 (ihc.st (ob s H C cl fp)) B hB) (fun s H C cl fp => ihe.se (ob s H C cl fp) z.elt h5 B hB) (notsetI (okI_set h2) _)
    rw [own_slots] at q
    exact q.imp fun D σ H hq => lc_read hq
theorem snd_lc2 (o : XOk gi G tabs N sc ts k X) {elt c c' : E} {t t' : T} {it it' : I} {x : Expr} (h : okE gi N sc (.lc2 elt t it c t' it' c') x = true) (ihi : IHI gi G tabs N it) (ihc : IH gi G tabs N c) (ihi' : IHI gi G tabs N it') (ihc' : IH gi G tabs N c') (ihe : IH gi G tabs N elt) : SE tabs X x (runE G (.lc2 elt t it c t' it' c')) := fun B hB => by
  simp only [okE] at h
  cases e : asLC2 x with
  | none => rw [e] at h; cases h
  | some z =>
    rw [e] at h
    simp only [Bool.and_eq_true] at h
    obtain ⟨pos, rfl⟩ := asLC2_some e
    obtain ⟨⟨⟨⟨⟨⟨⟨h1, h2⟩, h3⟩, h4⟩, h5⟩, h6⟩, h7⟩, h8⟩ := h
    have ob := fun s H C cl fp => o.blk z.scope s H C cl fp
    have q := pe_lc2 (X := X) (pos := pos) (own := ownOf N (t.slots ++ t'.slots)) (vs1 := t'.slots) (tg := z.tg) (tg1 := z.tg') (elt := z.elt) (te := tE X.K B (runE G elt)) (tt := tCnd X.K B G c) (tt1 := tCnd X.K B G c') (g := gD X.K B t) (g1 := gD X.K B t') (wi1 := iD X.K B (runI G it')) o.calm (by rw [o.hN]; exact o.nd) (ihi o z.tg z.iter h2 B hB) (by rw [o.hN, o.sc]; exact blkOk_by h1) (fun i hi => by rw [own_slots]; exact List.mem_append_right _ hi)
      (fun s H C cl fp => pg_ok (ob s H C cl fp) B t z.tg h3) (fun s H C cl fp => snd_ifs h4 (ihc.st (ob s H C cl fp)) B hB) (fun s H C cl fp => ihi' (ob s H C cl fp) z.tg' z.iter' h5 B hB) (fun s H C cl fp => pg_ok (ob s H C cl fp) B t' z.tg' h6) (fun s H C cl fp => snd_ifs h7 (ihc'.st (ob s H C cl fp)) B hB) (fun s H C cl fp => ihe.se (ob s H C cl fp) z.elt h8 B hB) (notsetI (okI_set h2) _) (notsetI (okI_set h5))
    rw [own_slots] at q
    exact q.imp fun σ H Q hq => lc2_read hq
theorem snd_setLc2 (o : XOk gi G tabs N sc ts k X) {elt c c' : E} {t t' : T} {it it' : I} {x : Expr} (h : okE gi N sc (.lc2 elt t it c t' it' c') x = true) (ihi : IHI gi G tabs N it) (ihc : IH gi G tabs N c) (ihi' : IHI gi G tabs N it') (ihc' : IH gi G tabs N c') (ihe : IH gi G tabs N elt) {i : Nat} {y : Str} {py spos : Pos} (hy : N[i]? = some y) (hyl : sc.names.lookup y = some .local)
    (hsw : swapsWith x (some (.Name y py)) spos.line X.env = pure true) (B : Bs) (hB : B.tabs = tabs) : PS X (.Assign [.Name y py] x spos) (tAsg (tE X.K B (runE G (.lc2 elt t it c t' it' c'))) (gName i)) := by
  simp only [okE] at h
  cases e : asLC2 x with
  | none => rw [e] at h; cases h
  | some z =>
    rw [e] at h
    simp only [Bool.and_eq_true] at h
    obtain ⟨pos, rfl⟩ := asLC2_some e
    obtain ⟨⟨⟨⟨⟨⟨⟨h1, h2⟩, h3⟩, h4⟩, h5⟩, h6⟩, h7⟩, h8⟩ := h
    have ob := fun s H C cl fp => o.blk z.scope s H C cl fp
    have q := ps_setLc2 (X := X) (i := i) (y := y) (py := py) (spos := spos) (pos := pos) (own := ownOf N (t.slots ++ t'.slots)) (vs1 := t'.slots) (tg := z.tg) (tg1 := z.tg') (elt := z.elt) (te := tE X.K B (runE G elt)) (tt := tCnd X.K B G c) (tt1 := tCnd X.K B G c') (g := gD X.K B t) (g1 := gD X.K B t') (wi1 := iD X.K B (runI G it')) o.calm (by rw [o.hN]; exact o.nd) (by rw [o.hN]; exact hy) (by rw [o.sc]; exact hyl) hsw (ihi o z.tg z.iter h2 B hB) (by rw [o.hN, o.sc]; exact blkOk_by h1) (fun i hi => by rw [own_slots]; exact List.mem_append_right _ hi)
      (fun s H C cl fp => pg_ok (ob s H C cl fp) B t z.tg h3) (fun s H C cl fp => snd_ifs h4 (ihc.st (ob s H C cl fp)) B hB) (fun s H C cl fp => ihi' (ob s H C cl fp) z.tg' z.iter' h5 B hB) (fun s H C cl fp => pg_ok (ob s H C cl fp) B t' z.tg' h6) (fun s H C cl fp => snd_ifs h7 (ihc'.st (ob s H C cl fp)) B hB) (fun s H C cl fp => ihe.se (ob s H C cl fp) z.elt h8 B hB) (notsetI (okI_set h2) _) (notsetI (okI_set h5))
    rw [own_slots] at q
    exact q.imp fun D σ H hq => lc2_read hq
end
end Gw

set_option Elab.async false
set_option linter.all false
set_option maxRecDepth 100000
set_option maxHeartbeats 2000000
/-! The value layer: generator expressions, eaten at once. -/
namespace Gw
open PySem PySem.Spec PyProof.Rows L2
section
variable {X : Cx} {pins : List (Addr × Obj)} {σ : L2.St} {H : Hp} {s : Shared}
/-- the generator's own frame -/
abbrev genX (X : Cx) (Ag : Around) (s : Shared) (H : Hp) (cenv : PySem.Env) (fp : List Addr) (pn : List (Addr × Obj)) : Cx :=
  { X with A := Ag, s_0 := s, H_0 := H, env := cenv, outer := X.stack, stack := cenv :: X.stack, ex := fp, fn := fun _ => false, pn := pn, xe := fun _ _ => False }
theorem gen_start {scope : Scope} {own : List (Str × Nat)} {fp : List Addr} {Ag : Around} {code : Value} {h5 : Heap} {g5 : Array GenState} {d5 : Drawn} {t5 : Nat} {m : Str → Option Value} {a : Addr} {go : Obj} (I : L2.Inv X pins σ H s) (ok : BlkOk X.N X.env.scope scope own) (nc : ∀ y ∈ scope.names, y.2 ≠ .cell) (hN : X.N.Nodup) (hfp : ∀ b ∈ fp, FpOk X pins H b ∧ b < s.heap.objs.size)
    (hAh : Ag.handled = none) (hAf : Ag.frames = some (genEnv scope (cloFrom X.env.cells scope.names []) s.heap.objs.size code builtinsNs X.env :: X.stack)) (kp : ∀ b o, s.heap.get? b = some o → h5.get? b = some o) (hns : h5.Ns s.heap.objs.size m)
    (ha : s.heap.objs.size < a) (hgo : h5.get? a = some go) (hgd : ∀ v, go.data ≠ .cell v) (hg : AllBare g5) :
    L2.Inv (genX X Ag s H (genEnv scope (cloFrom X.env.cells scope.names []) s.heap.objs.size code builtinsNs X.env) fp [(a, go)]) [] (L2.wipe σ (own.map (·.2))) H { s with heap := h5, gens := g5, drawn := d5, toks := t5 } := by
  have hfree : ∀ y ∈ scope.names, y.2 = .free → ∃ c, X.env.cells.lookup y.1 = some c := fun y hy e => by
    rcases ok.free y hy e with k | k
    · exact I.ok.has _ (.inl k)
    · exact I.ok.has _ (.inr k)
  generalize hcenv : genEnv scope (cloFrom X.env.cells scope.names []) s.heap.objs.size code builtinsNs X.env = cenv at hAf ⊢
  have hL : cenv.locals = s.heap.objs.size := by rw [← hcenv]; rfl
  have hcl : cenv.cells = cloFrom X.env.cells scope.names [] := by rw [← hcenv]; rfl
  have hsc : cenv.scope = scope := by rw [← hcenv]; rfl
  have mem : ∀ {y c}, cenv.cells.lookup y = some c → X.env.cells.lookup y = some c ∧ c < s.heap.objs.size := fun {y c} e => by
    rw [hcl] at e
    rcases cloFrom_mem (PySem.mem_of_lookup e) with hm | ⟨h1, rfl⟩
    · cases hm
    · obtain ⟨c, hc⟩ := hfree _ h1 rfl
      rw [hc]
      obtain ⟨w, z⟩ := I.cell _ _ hc
      exact ⟨rfl, z.lt⟩
  have look : ∀ {y}, scope.names.lookup y = some .free → ∃ c, cenv.cells.lookup y = some c ∧ X.env.cells.lookup y = some c := fun {y} hl => by
    have hy : (y, NameKind.free) ∈ scope.names := PySem.mem_of_lookup hl
    obtain ⟨c', e'⟩ := mem_lookup (cloFrom_has (cells := X.env.cells) (acc := []) hy)
    rw [← hcl] at e'
    exact ⟨c', e', (mem e').1⟩
  have okB : (genX X Ag s H cenv fp [(a, go)]).Ok := by
    refine ⟨I.ok.mod, ?_, ?_, ?_, ?_, fun y z c e1 e2 => I.ok.inj y z c (mem e1).1 (mem e2).1, fun y hy => ?_, fun y c z e => (by cases z), fun _ => hAh, hAf, .inr ⟨rfl, ?_⟩, fun b hb => ⟨?_, fun y c e z => ?_⟩, I.bs, Nat.le_trans I.ok.bsz I.sz, fun b o e hb => ?_, fun b hb z => ?_, I.stack, I.stkFree⟩
    · show cenv.scope.kind = _
      rw [hsc]; exact ok.kind
    · show cenv.globals = _
      rw [← hcenv]; exact I.ok.glob
    · show cenv.builtins = _
      rw [← hcenv]; rfl
    · show s.heap.objs.size ≤ cenv.locals
      rw [hL]; exact Nat.le_refl _
    · show ∃ c, cenv.cells.lookup y = some c
      have hy : cenv.scope.names.lookup y = some .cell ∨ cenv.scope.names.lookup y = some .free := hy
      rw [hsc] at hy
      rcases hy with hy | hy
      · exact absurd rfl (nc _ (PySem.mem_of_lookup hy))
      · obtain ⟨c, h1, _⟩ := look hy
        exact ⟨c, h1⟩
    · rw [← hcenv]; rfl
    · show b ≠ cenv.locals
      rw [hL]; exact Nat.ne_of_lt (hfp b hb).2
    · exact (hfp b hb).1.2.2.2.2.1 y c (mem e).1 z
    · rcases (hfp b hb).1.2.2.2.1 with z | z
      · exact I.ok.noex b o e z
      · exact absurd (Nat.lt_of_lt_of_le (Heap.lt_size e) (Nat.le_trans I.ok.bsz z)) (Nat.lt_irrefl _)
    · rcases List.mem_cons.mp (I.stkSub b z) with z | z
      · exact (hfp b hb).1.2.1 z
      · exact (hfp b hb).1.2.2.1 z
  refine ⟨okB, rfl, hg, Un.kept kp, ⟨m, ?_, fun i y av e1 e2 e3 => ?_⟩, fun y c e => ?_, ?_, fun y c e => I.freeC y c (mem e).1, fun p hp => ?_, I.hok.kept kp, by rw [L2.wipe_length]; exact I.len⟩
  · show Heap.Ns _ cenv.locals _
    rw [hL]; exact hns
  · obtain ⟨e2, hne⟩ := wipe_some e2
    have hfr : scope.names.lookup y = some .free := by
      have e3 : Vis cenv.scope y := e3
      rw [hsc] at e3
      have no : ∀ k, scope.names.lookup y = some k → ¬ (k = .local ∨ k = .cell) := fun k e hh => by
        rcases ok.own _ (PySem.mem_of_lookup e) hh with e' | e'
        · obtain ⟨p, hp, hpy⟩ := List.mem_map.mp e'
          have e3 := ok.ix p hp
          have : p.1 = y := hpy
          rw [this] at e3
          exact hne (List.mem_map.mpr ⟨p, hp, nodup_ix hN e3 e1⟩)
        · exact e' (List.mem_of_getElem? e1)
      rcases e3 with e3 | e3 | e3
      · exact absurd (.inl rfl) (no _ e3)
      · exact absurd (.inr rfl) (no _ e3)
      · exact e3
    obtain ⟨m, hn, hl⟩ := I.loc
    have hvis : Vis X.env.scope y := (ok.free _ (PySem.mem_of_lookup hfr) rfl).elim (fun k => .inr (.inl k)) (fun k => .inr (.inr k))
    obtain ⟨w, r, q⟩ := hl i y av e1 e2 hvis
    refine ⟨w, r, .inr ⟨.inr ?_, ?_⟩⟩
    · show cenv.scope.names.lookup y = _
      rw [hsc]; exact hfr
    obtain ⟨c, h1, h2⟩ := look hfr
    rcases q with ⟨k, _⟩ | ⟨_, c', e', z⟩
    · have k : X.env.scope.names.lookup y = some .local := k
      rcases ok.free _ (PySem.mem_of_lookup hfr) rfl with k' | k' <;> rw [show X.env.scope.names.lookup y = _ from k'] at k <;> cases k
    · rw [h2] at e'; cases e'
      exact ⟨c, h1, z.keeps kp⟩
  · obtain ⟨w, z⟩ := I.cell y c (mem e).1
    exact ⟨w, z.keeps kp⟩
  · show H cenv.locals = none
    rw [hL]; exact I.hok.fresh (Nat.le_refl _)
  · have hp : p = (a, go) := by
      have : p ∈ [(a, go)] ++ ([] : List (Addr × Obj)) := hp
      simpa using this
    subst hp
    refine ⟨hgo, I.hok.fresh (Nat.le_of_lt ha), ?_, ?_, hgd⟩
    · show a ≠ cenv.locals
      rw [hL]; exact Nat.ne_of_gt ha
    · intro z
      obtain ⟨_, o, ho, _⟩ := I.stack.mem z
      exact absurd (Nat.lt_trans (Heap.lt_size ho) ha) (Nat.lt_irrefl _)
end
end Gw

set_option Elab.async false
set_option linter.all false
set_option maxRecDepth 100000
set_option maxHeartbeats 2000000
/-! The value layer: a generator expression's own loop. -/
namespace Gw
open PySem PySem.Spec PyProof.Rows L2
/-- nothing but the table of generators and the tokens may have changed -/
structure SameH (s s' : Shared) : Prop where
  heap : s'.heap = s.heap
  os : s'.os = s.os
  bare : AllBare s'.gens
theorem inv_same {X : Cx} {pins : List (Addr × Obj)} {σ : L2.St} {H : Hp} {s s' : Shared} (I : L2.Inv X pins σ H s) (h : SameH s s') : L2.Inv X pins σ H s' :=
  I.call' (ch := []) h.os (Un.kept fun b u e => by rw [h.heap]; exact e) (by rw [h.heap]; exact I.hok) h.bare fun b hb => by cases hb
structure GJ (X : Cx) (pins : List (Addr × Obj)) (fp : List Addr) (tn : Nat → Heap → Prop) (σ : L2.St) (i : Nat) (H : Hp) (s : Shared) : Prop where
  inv : L2.Inv X pins σ H s
  tn : tn i s.heap
  fp : ∀ b ∈ fp, H b = none
theorem GJ.same {X : Cx} {pins : List (Addr × Obj)} {fp : List Addr} {tn : Nat → Heap → Prop} {σ : L2.St} {i : Nat} {H : Hp} {s s' : Shared} (j : GJ X pins fp tn σ i H s) (h : SameH s s') : GJ X pins fp tn σ i H s' :=
  ⟨inv_same j.inv h, by rw [h.heap]; exact j.tn, j.fp⟩
/-- the eater's own objects ps are pinned while the generator runs -/
structure Pn (ps fp : List Addr) (pins : List (Addr × Obj)) : Prop where
  cov : ∀ b ∈ ps, ∃ o, (b, o) ∈ pins
  off : ∀ p ∈ pins, p.1 ∉ fp
theorem Pn.nil {fp : List Addr} : Pn [] fp [] := ⟨(fun b h => by cases h), (fun p h => by cases h)⟩
def Stays (ps : List Addr) (h h' : Heap) : Prop := ∀ b ∈ ps, ∀ o, h.get? b = some o → h'.get? b = some o
/-- the generator's readings: W at a turn's start, Yd where a value is out, Fin at the end -/
def GTurn (J : It) (g : TG) (tt : TT) (te : TE) (σ : L2.St) (vs : List Nat) (W : Nat → Nat → Hp → Prop) (Yd : Nat → Nat → V → Hp → Prop) (Fin : Hp → Prop) : Prop := ∀ i m H, W i m H →
  (J.stop i H ∧ Fin H) ∨ (J.go i H ∧ 0 < m ∧ ∃ Nx : Hp → Prop, (∀ H', Nx H' → ∃ m', m' < m ∧ W (i + 1) m' H') ∧ ∀ x H', J.yld i H x H' → g x (L2.wipe σ vs) H' fun σ2 H2 => L2.wipe σ2 vs = L2.wipe σ vs ∧ tt σ2 H2 fun b H3 =>
    if b = true then te σ2 H3 fun y H4 => Yd i m y H4 else Nx H3)
section
variable {X : Cx} {ps fp : List Addr} {it : Addr} {tn : Nat → Heap → Prop} {J : It} {σ : L2.St} {vs : List Nat} {W : Int → Nat → Nat → Hp → Prop} {Yd : Int → Nat → Nat → V → Hp → Prop} {Fin : Int → Hp → Prop} {Cor : Int → Heap → Prop}
def gEnd (X : Cx) (σ : L2.St) (Fin : Hp → Prop) : Shared → Prop := fun s => ∃ H pins, L2.Inv X pins σ H s ∧ Fin H
def gProto (X : Cx) (ps fp : List Addr) (tn : Nat → Heap → Prop) (σ : L2.St) (Cor : Int → Heap → Prop) (W : Int → Nat → Nat → Hp → Prop) (Yd : Int → Nat → Nat → V → Hp → Prop) : Protocol := fun k s₀ v s kap =>
  ∃ i m H y pins tot, m ≤ k + 1 ∧ RelV y v ∧ GJ X pins fp tn σ (i + 1) H s ∧ Pn ps fp pins ∧ Yd tot i m y H ∧ Cor tot s₀.heap ∧ Stays ps s₀.heap s.heap ∧ ∀ s'' H' pins' tot', GJ X pins' fp tn σ (i + 1) H' s'' → Pn ps fp pins' → Cor tot' s''.heap → (∃ m', m' < m ∧ W tot' (i + 1) m' H') → kap (.send .none) s''
def gLast (X : Cx) (ps : List Addr) (σ : L2.St) (Cor : Int → Heap → Prop) (Fin : Int → Hp → Prop) : GenEnd := fun _ s₀ r s₁ => r = .ok .next ∧ (∃ tot, Cor tot s₀.heap ∧ gEnd X σ (Fin tot) s₁) ∧ Stays ps s₀.heap s₁.heap
theorem gen_loop {A2 : Around} {elt tg iter : Expr} {ifs : List Expr} {scope : Scope} {pos : Pos} {g : TG} {tt : TT} {te : TE}
    (hA : X.A = A2.over (.compLoop (.GeneratorExp elt [⟨tg, iter, ifs, 0⟩] scope pos) 0 (.ref it) .none X.env) []) (hc : X.calm = true) (hco : X.env.scope.isCoroutine = false) (hxe : X.xe = fun _ _ => False) (hex : X.ex = fp) (T : Turn X.prog X.w X.K tg J fp it tn) (hpn : ∀ p ∈ X.pn, p.1 ∉ fp)
    (pg : PG X tg g) (pt : PTs X ifs tt) (pe : PE X elt te) (turn : ∀ tot, GTurn J g tt te σ vs (W tot) (Yd tot) (Fin tot)) : ∀ (m i : Nat) (H : Hp) (s : Shared) (pins : List (Addr × Obj)) (tot : Int), GJ X pins fp tn (L2.wipe σ vs) i H s → Pn ps fp pins → W tot i m H → ∀ (n : Nat), m ≤ n → ∀ s₀ : Shared, (∀ p ∈ pins, s₀.heap.get? p.1 = some p.2) → Cor tot s₀.heap →
      Seg (model X.prog X.w) A2 (gLast X ps (L2.wipe σ vs) Cor Fin) (gProto X ps fp tn (L2.wipe σ vs) Cor W Yd) n s₀ (.compLoop (.GeneratorExp elt [⟨tg, iter, ifs, 0⟩] scope pos) 0 (.ref it) .none X.env)
        ((model X.prog X.w).den (.compLoop (.GeneratorExp elt [⟨tg, iter, ifs, 0⟩] scope pos) 0 (.ref it) .none X.env)) [] s := by
  have stat : ∀ {pins : List (Addr × Obj)} {σ' : L2.St} {H' : Hp} {s' : Shared}, Pn ps fp pins → L2.Inv X pins σ' H' s' → (∀ b ∈ fp, H' b = none) → ∀ b ∈ fp, FpOk X pins H' b := fun {pins σ' H' s'} hP I' hn b hb =>
    ⟨hn b hb, (I'.ok.exf b (by rw [hex]; exact hb)).1, I'.ok.exfs b (by rw [hex]; exact hb), .inl (by rw [hex]; exact hb), fun x c e => (I'.ok.exf b (by rw [hex]; exact hb)).2 x c e, fun p hp z => by
      rcases List.mem_append.mp hp with hp | hp
      · exact hpn p hp (by rw [z]; exact hb)
      · exact hP.off p hp (by rw [z]; exact hb)⟩
  have stays : ∀ {pins : List (Addr × Obj)} {σ' : L2.St} {H' : Hp} {s₀ s' : Shared}, Pn ps fp pins → (∀ p ∈ pins, s₀.heap.get? p.1 = some p.2) → L2.Inv X pins σ' H' s' → Stays ps s₀.heap s'.heap := fun {pins σ' H' s₀ s'} hP h0 I' b hb o e => by
    obtain ⟨o', hm⟩ := hP.cov b hb
    have e' := h0 _ hm
    rw [e] at e'
    cases e'
    exact (I'.pin _ (List.mem_append_right _ hm)).1
  intro m
  induction m using Nat.strongRecOn with
  | ind m ih =>
    intro i H s pins tot j hP w n hn s₀ h0 hcor
    show Seg _ A2 _ _ _ s₀ _ ((compTurn (.GeneratorExp elt [⟨tg, iter, ifs, 0⟩] scope pos) 0 (.ref it) .none X.env).onRaise (leaving X.env)) [] s
    rw [compTurn_gen, Sem.onRaise_eq_wrap]
    refine seg_bind_wrap (wpAny_standAt ?_)
    rcases turn tot i m H w with ⟨stop, fin⟩ | ⟨go, hm, Nx, hNx, step⟩
    · have td := T.done X rfl rfl rfl hc i pins s _ H (fun _ _ => False) j.inv (stat hP j.inv j.fp) j.tn stop
      rw [hA] at td
      refine seg_bind_wrap (wpAny_mono td (fun r s1 ⟨hr, I1⟩ => ?_) fun _ _ z => z.elim)
      subst hr
      exact seg_end (.ok .next) ⟨rfl, ⟨tot, hcor, H, pins, I1, fin⟩, stays hP h0 I1⟩
    · have ti := T.item X rfl rfl rfl hc i pins s _ H (fun _ _ => False) j.inv (stat hP j.inv j.fp) j.tn go
      rw [hA] at ti
      refine seg_bind_wrap (wpAny_mono ti (fun r s6 ⟨u, hr, h6⟩ => ?_) fun _ _ z => z.elim)
      subst hr
      refine seg_bind_wrap (wpAny_mono h6 (fun _ s7 ⟨x, H7, I7, r7, y7, st7, n7⟩ => ?_) fun _ _ z => z.elim)
      have I7' := I7.pinned (stat hP I7 n7) (T.obj _ _ st7)
      have ta := pg.run _ s7 _ H7 x u _ I7' r7 (step x H7 y7)
      rw [hA, hxe] at ta
      refine seg_bind_wrap (wpAny_mono ta (fun _ s8 ⟨σ8, H8, I8, hw8, q8⟩ => ?_) fun _ _ z => z.elim)
      have tb := pt.run _ s8 σ8 H8 _ I8 q8
      rw [hA, hxe] at tb
      refine seg_bind_wrap (wpAny_mono tb (fun b s9 ⟨H9, I9, q9⟩ => ?_) fun _ _ z => z.elim)
      -- the turn's end
      have back : ∀ {s' : Shared} {H' : Hp}, L2.Inv X (pins ++ pinsAt fp s7.heap) σ8 H' s' → GJ X pins fp tn (L2.wipe σ vs) (i + 1) H' s' := fun {s' H'} I' => by
        have pin' : ∀ b ∈ fp, ∀ o, s7.heap.get? b = some o → s'.heap.get? b = some o ∧ H' b = none := fun b hb o e =>
          let z := I'.pin (b, o) (List.mem_append_right _ (List.mem_append_right _ (mem_pinsAt hb e)))
          ⟨z.1, z.2.1⟩
        have hl : (L2.wipe σ vs).length = σ8.length := by rw [← hw8, L2.wipe_length]
        refine ⟨(I'.unpinned (pins := pins)).weak hl (fun j v e => ?_), T.keep _ _ _ st7 fun b hb o e => (pin' b hb o e).1, fun b hb => ?_⟩
        · rw [← hw8] at e
          exact (wipe_some e).1
        · obtain ⟨o, e, _⟩ := T.obj _ _ st7 b hb
          exact (pin' b hb o e).2
      cases b with
      | false =>
        simp only [Bool.false_eq_true, if_false] at q9 ⊢
        obtain ⟨m', hm', w'⟩ := hNx H9 q9
        exact seg_again rfl (ih m' hm' (i + 1) H9 s9 pins tot (back I9) hP w' n (by omega) s₀ h0 hcor)
      | true =>
        simp only [if_true] at q9 ⊢
        have hy : ∀ v, yieldOut X.env v = yieldValue v := fun v => by simp only [yieldOut, hco, Bool.false_eq_true, if_false]
        simp only [hy]
        rw [Sem.bind_eq_wrap', Sem.bind_eq_wrap', Sem.wrap_wrap, Sem.wrap_wrap]
        have te' := pe.run _ s9 σ8 H9 _ I9 q9
        rw [hA, hxe] at te'
        obtain ⟨n', rfl⟩ : ∃ n', n = n' + 1 := ⟨n - 1, by omega⟩
        refine seg_wrap (wpAny_mono te' (fun z s10 ⟨yv, H10, I10, r10, yd⟩ => ?_) fun _ _ z => z.elim)
        refine seg_at (seg_yield rfl rfl rfl ⟨i, m, H10, yv, pins, tot, hn, r10, back I10, hP, yd, hcor, stays hP h0 (back I10).inv, fun s'' H' pins' tot' j' hP' hc' ⟨m', hm', w'⟩ => ?_⟩)
        exact seg_again rfl (ih m' hm' (i + 1) H' s'' pins' tot' j' hP' w' n' (by omega) s'' (fun p hp => (j'.inv.pin p (List.mem_append_right _ hp)).1) hc')
end
end Gw

set_option Elab.async false
set_option linter.all false
set_option maxRecDepth 100000
set_option maxHeartbeats 2000000
/-! The value layer: what eats a generator expression. -/
namespace Gw
open PySem PySem.Spec PyProof.Rows L2
theorem setGen_bare {s : Shared} {g : Nat} {x : GenState} (h : AllBare s.gens) (hx : x.bare = true) : AllBare (s.setGen g x).gens := fun y hy => by
  simp only [Shared.setGen] at hy
  obtain ⟨i, hi, rfl⟩ := Array.mem_iff_getElem.mp hy
  by_cases e : g = i
  · subst e; simp [hx]
  · have hi' : i < s.gens.size := by simpa using hi
    rw [Array.getElem_setIfInBounds_ne hi' e]
    exact h _ (Array.getElem_mem _)
theorem same_setGen {s : Shared} {g : Nat} {x : GenState} (h : AllBare s.gens) (hx : x.bare = true) : SameH s (s.setGen g x) := ⟨rfl, rfl, setGen_bare h hx⟩
theorem SameH.trans {s s' s'' : Shared} (a : SameH s s') (b : SameH s' s'') : SameH s s'' := ⟨b.heap.trans a.heap, b.os.trans a.os, b.bare⟩
section
variable {X : Cx} {ps fp : List Addr} {it : Addr} {tn : Nat → Heap → Prop} {J : It} {σ : L2.St} {vs : List Nat} {W : Int → Nat → Nat → Hp → Prop} {Yd : Int → Nat → Nat → V → Hp → Prop} {Fin : Int → Hp → Prop} {Cor : Int → Heap → Prop}
theorem gen_begin {A2 : Around} {elt tg iter : Expr} {ifs : List Expr} {scope : Scope} {pos : Pos} {R : GenEnd} {Y : Protocol} {n : Nat} {s₀ s : Shared} {i : Nat} (T : Turn X.prog X.w X.K tg J fp it tn) (hst : tn i s.heap)
    (loop : Seg (model X.prog X.w) A2 R Y n s₀ (.compLoop (.GeneratorExp elt [⟨tg, iter, ifs, 0⟩] scope pos) 0 (.ref it) .none X.env) ((model X.prog X.w).den (.compLoop (.GeneratorExp elt [⟨tg, iter, ifs, 0⟩] scope pos) 0 (.ref it) .none X.env)) [] s) :
    Seg (model X.prog X.w) A2 R Y n s₀ (.compStart (.GeneratorExp elt [⟨tg, iter, ifs, 0⟩] scope pos) 0 (.ref it) .none X.env) ((model X.prog X.w).den (.compStart (.GeneratorExp elt [⟨tg, iter, ifs, 0⟩] scope pos) 0 (.ref it) .none X.env)) [] s := by
  show Seg _ A2 _ _ _ s₀ _ ((compStart (.GeneratorExp elt [⟨tg, iter, ifs, 0⟩] scope pos) 0 (.ref it) .none X.env).onRaise (leaving X.env)) [] s
  unfold compStart
  rw [Sem.onRaise_eq_wrap]
  show Seg _ A2 _ _ _ s₀ _ ((ask >>= _).wrap _ _ _ _) [] s
  refine seg_bind_wrap (wpAny_askSetting ?_)
  split
  · exact seg_again rfl loop
  · first
      | exact seg_bind_wrap (wpAny_rule (seg_bind_wrap (wpAny_standAt (seg_bind_wrap (T.self _ i s _ _ hst (seg_again rfl loop))))))
      | (refine seg_bind_wrap (wpAny_rule ?_); show Seg _ A2 _ _ _ s₀ _ ((standAt iter.pos >>= _).wrap _ _ _ _) [] s; exact seg_bind_wrap (wpAny_standAt (seg_bind_wrap (T.self _ i s _ _ hst (seg_again rfl loop)))))
/-- ready to be woken at turn i, n wakings at most -/
def GReady (X : Cx) (A2 : Around) (ps fp : List Addr) (tn : Nat → Heap → Prop) (σ : L2.St) (Cor : Int → Heap → Prop) (W : Int → Nat → Nat → Hp → Prop) (Yd : Int → Nat → Nat → V → Hp → Prop) (Fin : Int → Hp → Prop) (gs : GenState) (i m n : Nat) : Prop :=
  ∀ (s'' : Shared) (H' : Hp) (pins : List (Addr × Obj)) (tot : Int), GJ X pins fp tn σ i H' s'' → Pn ps fp pins → Cor tot s''.heap → (∃ m', m' ≤ m ∧ W tot i m' H') → gs.Goes (model X.prog X.w) A2 (gLast X ps σ Cor Fin) (gProto X ps fp tn σ Cor W Yd) n (.send .none) s''
/-- the sleeping generator number g; n: how often it may yet wake -/
structure GAt (X : Cx) (A2 : Around) (ps fp : List Addr) (tn : Nat → Heap → Prop) (σ : L2.St) (Cor : Int → Heap → Prop) (W : Int → Nat → Nat → Hp → Prop) (Yd : Int → Nat → Nat → V → Hp → Prop) (Fin : Int → Hp → Prop) (g n : Nat) (tot : Int) (H : Hp) (s : Shared) : Prop where
  cor : Cor tot s.heap
  gs : ∃ gs i m pins, s.gens[g]? = some gs ∧ GReady X A2 ps fp tn σ Cor W Yd Fin gs i m n ∧ GJ X pins fp tn σ i H s ∧ Pn ps fp pins ∧ ∃ m', m' ≤ m ∧ W tot i m' H
theorem gen_next {A1 : Around} {g n : Nat} {tot0 : Int} {H0 : Hp} {s : Shared} {a : Addr} {go : Obj} {Q : Option Value → Shared → Prop} {E : Value → Shared → Prop} (G : GAt X A1.in1 ps fp tn σ Cor W Yd Fin g n tot0 H0 s) (hh : A1.handled = none) (hroom : A1.depth < recursionLimit) (hgen : ∀ h : Heap, h.get? a = some go → h.IsGen a g) (hpin : (a, go) ∈ X.pn)
    (hv : ∀ (v : Value) (s' : Shared) (i m : Nat) (H : Hp) (y : V) (pins : List (Addr × Obj)) (tot : Int), RelV y v → Yd tot i m y H → Cor tot s.heap → GJ X pins fp tn σ (i + 1) H s' → Pn ps fp pins → Stays ps s.heap s'.heap →
      (∀ (s'' : Shared) (H' : Hp) (pins' : List (Addr × Obj)) (tot' : Int), GJ X pins' fp tn σ (i + 1) H' s'' → Pn ps fp pins' → Cor tot' s''.heap → s''.gens = s'.gens → (∃ m', m' < m ∧ W tot' (i + 1) m' H') → ∃ n', n = n' + 1 ∧ GAt X A1.in1 ps fp tn σ Cor W Yd Fin g n' tot' H' s'') → Q (some v) s')
    (he : ∀ s' tot, Cor tot s.heap → gEnd X σ (Fin tot) s' → Stays ps s.heap s'.heap → Q none s') :
    wpAny (model X.prog X.w) A1 (pyNext (.ref a)) Q E s := by
  obtain ⟨gs, i0, m0, pins0, hgs, hgo, J0, P0, w0⟩ := G.gs
  have I := J0.inv
  have hlt : g < s.gens.size := by
    rcases Nat.lt_or_ge g s.gens.size with h' | h'
    · exact h'
    · rw [Array.getElem?_eq_none h'] at hgs; cases hgs
  refine GenW.wpAny_gsz (n := g + 1) hlt ?_
  refine wpAny_pyNext_genexpQ (P := fun _ s₀ s₁ => (∃ tot, Cor tot s₀.heap ∧ gEnd X σ (Fin tot) s₁) ∧ Stays ps s₀.heap s₁.heap) hh I.nolimit hroom (hgen _ (I.pin _ (List.mem_append_left _ hpin)).1) hgs (hgo _ H0 pins0 tot0 (J0.same (same_setGen I.bare rfl)) P0 G.cor w0) (fun v s₁ gs' hb hY hsz => ?_) (fun s₁ hP h' hk _ => ?_)
  · obtain ⟨i, m, H, y, pins, tot, _, rv, j, hPn, yd, hcr, sty, kap⟩ := hY
    have sm : SameH s₁ (s₁.setGen g gs') := same_setGen j.inv.bare hb
    refine hv v _ i m H y pins tot rv yd hcr (j.same sm) hPn sty fun s'' H' pins' tot' j'' hP'' hc'' hg'' hw => ?_
    have hself : (s₁.setGen g gs').gens[g]? = some gs' := by
      have : g < s₁.gens.size := by
        have := hsz
        rw [GenW.setGen_size] at this
        omega
      simp [Shared.setGen, this]
    cases n with
    | zero => exact (kap s'' H' pins' tot' j'' hP'' hc'' hw).elim
    | succ n =>
      refine ⟨n, rfl, hc'', gs', i + 1, m - 1, pins', by rw [hg'']; exact hself, fun s3 H3 pins3 tot3 j3 hP3 hc3 ⟨m3, hm3, w3⟩ => ?_, j'', hP'', ?_⟩
      · obtain ⟨m1, hm1, _⟩ := hw
        exact kap s3 H3 pins3 tot3 j3 hP3 hc3 ⟨m3, by omega, w3⟩
      · obtain ⟨m1, hm1, w1⟩ := hw
        exact ⟨m1, by omega, w1⟩
  · obtain ⟨⟨tot, hcr, H', pins', I', f⟩, sty⟩ := hP
    refine he _ tot hcr ⟨H', pins', ?_, f⟩ fun b hb o e => hk b o (sty b hb o e)
    exact I'.call' (ch := []) rfl (Un.kept hk) (I'.hok.kept hk) (setGen_bare I'.bare rfl) fun b hb => by cases hb
/-- all -/
theorem all_loop {A : Around} {g : Nat} {a : Addr} {go : Obj} {Rr : Result → Shared → Prop} {FinB : Hp → Prop} (hh : A.handled = none) (hroom : A.depth < recursionLimit) (hgen : ∀ h : Heap, h.get? a = some go → h.IsGen a g) (hpin : (a, go) ∈ X.pn)
    (hyd : ∀ tot i m y H, Yd tot i m y H → ∃ b, y = .bl b ∧ (b = true → ∃ m', m' < m ∧ W 0 (i + 1) m' H) ∧ (b = false → FinB H)) (h0 : ∀ h, Cor 0 h) (hE : ∀ s' tot, gEnd X σ (Fin tot) s' → Rr (.ok (.ret (.bool true))) s') (hB : ∀ s', gEnd X σ FinB s' → Rr (.ok (.ret (.bool false))) s') :
    ∀ (n : Nat) (tot0 : Int) (H0 : Hp) (s : Shared), GAt X A.in1.in1 ps fp tn σ Cor W Yd Fin g n tot0 H0 s → codeAny (model X.prog X.w) A (.builtin "all.loop" ⟨[.ref a], []⟩) Rr s := by
  intro n
  induction n using Nat.strongRecOn with
  | ind n ih =>
    intro tot0 H0 s G
    refine codeAny_builtin F.entry_all_loop ?_
    rw [Around.under_plainId F.plain_all_loop _]
    show wpAny _ A.in1 (pyNext (.ref a) >>= _) _ _ s
    refine wpAny_bind (gen_next (A1 := A.in1) G hh hroom hgen hpin (fun v s' i m H y pins tot rv yd _ j hP _ hn => ?_) fun s' tot _ e _ => ?_)
    · obtain ⟨b, rfl, h1, h2⟩ := hyd tot i m y H yd
      cases (show v = Value.bool b from rv)
      refine wpAny_bind (wpAny_holding (wpAny_truthy_bool ?_))
      refine wpAny_bind (wpAny_letGo ?_)
      cases b with
      | true =>
        simp only [if_true]
        obtain ⟨n', rfl, G'⟩ := hn s' H pins 0 j hP (h0 _) rfl (h1 rfl)
        exact wpAny_pure ⟨plainId_quiet F.plain_all_loop _, ih n' (by omega) 0 H s' G'⟩
      | false =>
        simp only [Bool.false_eq_true, if_false]
        exact wpAny_bind (wpAny_rule (wpAny_pure (hB s' ⟨H, pins, j.inv, h2 rfl⟩)))
    · exact wpAny_bind (wpAny_rule (wpAny_pure (hE s' tot e)))
theorem any_loop {A : Around} {g : Nat} {a : Addr} {go : Obj} {Rr : Result → Shared → Prop} {FinB : Hp → Prop} (hh : A.handled = none) (hroom : A.depth < recursionLimit) (hgen : ∀ h : Heap, h.get? a = some go → h.IsGen a g) (hpin : (a, go) ∈ X.pn)
    (hyd : ∀ tot i m y H, Yd tot i m y H → ∃ b, y = .bl b ∧ (b = false → ∃ m', m' < m ∧ W 0 (i + 1) m' H) ∧ (b = true → FinB H)) (h0 : ∀ h, Cor 0 h) (hE : ∀ s' tot, gEnd X σ (Fin tot) s' → Rr (.ok (.ret (.bool false))) s') (hB : ∀ s', gEnd X σ FinB s' → Rr (.ok (.ret (.bool true))) s') :
    ∀ (n : Nat) (tot0 : Int) (H0 : Hp) (s : Shared), GAt X A.in1.in1 ps fp tn σ Cor W Yd Fin g n tot0 H0 s → codeAny (model X.prog X.w) A (.builtin "any.loop" ⟨[.ref a], []⟩) Rr s := by
  intro n
  induction n using Nat.strongRecOn with
  | ind n ih =>
    intro tot0 H0 s G
    refine codeAny_builtin F.entry_any_loop ?_
    rw [Around.under_plainId F.plain_any_loop _]
    show wpAny _ A.in1 (pyNext (.ref a) >>= _) _ _ s
    refine wpAny_bind (gen_next (A1 := A.in1) G hh hroom hgen hpin (fun v s' i m H y pins tot rv yd _ j hP _ hn => ?_) fun s' tot _ e _ => ?_)
    · obtain ⟨b, rfl, h1, h2⟩ := hyd tot i m y H yd
      cases (show v = Value.bool b from rv)
      refine wpAny_bind (wpAny_holding (wpAny_truthy_bool ?_))
      refine wpAny_bind (wpAny_letGo ?_)
      cases b with
      | false =>
        simp only [Bool.false_eq_true, if_false]
        obtain ⟨n', rfl, G'⟩ := hn s' H pins 0 j hP (h0 _) rfl (h1 rfl)
        exact wpAny_pure ⟨plainId_quiet F.plain_any_loop _, ih n' (by omega) 0 H s' G'⟩
      | true =>
        simp only [if_true]
        exact wpAny_bind (wpAny_rule (wpAny_pure (hB s' ⟨H, pins, j.inv, h2 rfl⟩)))
    · exact wpAny_bind (wpAny_rule (wpAny_pure (hE s' tot e)))
end
end Gw

set_option Elab.async false
set_option linter.all false
set_option maxRecDepth 100000
set_option maxHeartbeats 4000000
/-! The value layer: all(..), any(..) of a generator expression. -/
namespace Gw
open PySem PySem.Spec PyProof.Rows L2 GxR
/-- a generator expression's own scope -/
structure GenSc (scope : Scope) : Prop where
  co : scope.isCoroutine = false
  cell : ∀ y ∈ scope.names, y.2 ≠ .cell
  dot : scope.names.lookup (".0" : Str) = some NameKind.local
def genObj (g : Nat) (qn : Str) (t : Nat) : Obj := { cls := .type "generator", data := .fields #[.int g 0, .str "<genexpr>" (t + 1), .str qn (t + 1 + 1)] }
def tGenB (P : Addr) (stop : Bool) (wi : TI) (g : TG) (tt : TT) (te : TE) (vs : List Nat) : TE := fun σ H Q => wi σ H fun J H1 => GxR.TabG H1 P ∧ ∀ H2, Tabbed P H1 H2 →
  ∃ W : Nat → Nat → Hp → Prop, (∃ m, W 0 m H2) ∧ GTurn J g tt te σ vs W (fun i m y H => ∃ b, y = .bl b ∧ (b ≠ stop → ∃ m', m' < m ∧ W (i + 1) m' H) ∧ (b = stop → Q (.bl stop) H)) fun H => Q (.bl (!stop)) H
section
variable {X : Cx}
/-- made, and then f; the generator sleeps in the state that f sees -/
theorem gen_made {pins : List (Addr × Obj)} {σ : L2.St} {H : Hp} {s : Shared} {c P : Addr} {elt tg iter : Expr} {ifs : List Expr} {scope : Scope} {own : List (Str × Nat)} {gpos : Pos} {wi : TI} {Qf : Value → Shared → Prop} {R : It → Hp → Prop} {k : Nat} (hr : Room k X.A) (hc : X.calm = true) (hN : X.N.Nodup) (TB : TabB X.base X.mg c P) (hcode : X.env.code = .ref c) (S : GenSc scope) (ok : BlkOk X.N X.env.scope scope own)
    (hi : PI X tg iter wi) (hs : ∀ v, genFold iter X.env v = pure v) (I : L2.Inv X pins σ H s) (h : wi σ H fun J H1 => GxR.TabG H1 P ∧ R J H1)
    (hQ : ∀ (J : It) (H1 H2 : Hp) (code : Value) (it : Addr) (fp : List Addr) (tn : Nat → Heap → Prop) (s4 : Shared) (h5 : Heap) (m : Str → Option Value) (a : Addr) (go : Obj) (t5 : Nat), R J H1 → Tabbed P H1 H2 → L2.Inv X pins σ H2 s4 → Turn X.prog X.w X.K tg J fp it tn → tn 0 s4.heap → (∀ b ∈ fp, FpOk X pins H2 b ∧ b < s4.heap.objs.size) →
      (∀ b o, s4.heap.get? b = some o → h5.get? b = some o) → h5.Ns s4.heap.objs.size m → s4.heap.objs.size < a → h5.get? a = some go → (∀ h : Heap, h.get? a = some go → h.IsGen a s4.gens.size) → (∀ v, go.data ≠ .cell v) →
      Qf (.ref a) { s4 with gens := s4.gens.push (.fresh (.compStart (.GeneratorExp elt [⟨tg, iter, ifs, 0⟩] scope gpos) 0 (.ref it) .none (genEnv scope (cloFrom X.env.cells scope.names []) s4.heap.objs.size code builtinsNs X.env))), toks := t5, heap := h5 }) :
    wpAny (model X.prog X.w) X.A (eval (.GeneratorExp elt [⟨tg, iter, ifs, 0⟩] scope gpos) X.env) Qf X.xe s := by
  have hfree : ∀ y ∈ scope.names, y.2 = .free → ∃ c, X.env.cells.lookup y.1 = some c := fun y hy e => by
    rcases ok.free y hy e with k | k
    · exact I.ok.has _ (.inl k)
    · exact I.ok.has _ (.inr k)
  refine wpAny_GeneratorExp_make S.co (closure_ok hfree) S.cell S.dot ok.kind (by have := hr.dp; omega) (thn (hi.run pins s σ H _ I h) fun xv s1 hx => thn hx fun itv s2 h2 => ?_) hs
  obtain ⟨it, fp, tn, J, H1, rfl, I1, T, st1, f1, ⟨ps, hP, ht⟩, q1⟩ := h2
  refine ⟨I1.nolimit, ?_⟩
  have hPs : s2.heap.get? P = some { cls := .none, data := .fields ps } := I1.hok P _ hP
  have cd : PySem.W.CodeHd s2.heap c P := TB.code.keeps fun b u e => I1.bk b u e
  have fpP : ∀ b ∈ fp, b ≠ P := fun b hb e => by
    have z := (f1 b hb).1
    rw [e, hP] at z; cases z
  have fpz : ∀ b ∈ fp, b < s2.heap.objs.size := fun b hb => by
    obtain ⟨o, e, _⟩ := T.obj _ _ st1 b hb
    exact Heap.lt_size e
  have cont : ∀ (code : Value) (h3 : Heap) (tk : Nat) (more : Array Value), Heap.ExtBut P s2.heap h3 → s2.heap.objs.size ≤ h3.objs.size → h3.get? P = some { cls := .none, data := .fields (ps ++ more) } → TriplesOk (ps ++ more).toList →
      wpAny (model X.prog X.w) X.A (builtinsFor X.env.globals X.env.builtins) (fun bi s₄ => ∀ h', h'.Ns s₄.heap.objs.size (fun y => if y = ".0" then some (.ref it) else none) → Heap.SameBut s₄.heap.objs.size (s₄.heap.push { cls := .type "frame", data := .dict #[] }) h' →
          Qf (.ref h'.objs.size) { s₄ with
            gens := s₄.gens.push (.fresh (.compStart (.GeneratorExp elt [⟨tg, iter, ifs, 0⟩] scope gpos) 0 (.ref it) .none (genEnv scope (cloFrom X.env.cells scope.names []) s₄.heap.objs.size code bi X.env))),
            toks := s₄.toks + 1 + 1 + 1,
            heap := h'.push { cls := .type "generator", data := .fields #[.int s₄.gens.size 0, .str "<genexpr>" (s₄.toks + 1), .str (X.env.qual ++ "<genexpr>") (s₄.toks + 1 + 1)] } }) X.xe { s2 with heap := h3, toks := tk } := by
    intro code h3 tk more hx hsz hP3 ht3
    obtain ⟨bm, ob, e1, e2, e3, e4, e5, e6, e7, e8⟩ := TB.bm
    have keep3 : ∀ b u, b ≠ P → s2.heap.get? b = some u → h3.get? b = some u := fun b u hb e => hx b u hb e
    refine wpAny_builtinsFor (m := X.mg) (by rw [I1.ok.glob]; exact (I1.mod.glob.keeps I1.bk).extBut hx TB.gP) e1 e2 (keep3 _ _ e4 (I1.bk _ _ e5)) e6 e7 e8 ?_
    intro h' hn' hs'
    have I4 : L2.Inv X pins σ (upd H1 P (.tbl (ps ++ more))) { s2 with heap := h3, toks := tk } := by
      have q := inv_tab (more := more) (h' := h3) (g' := s2.gens) (d' := s2.drawn) (t' := tk) I1 hP keep3 hP3 I1.bare
      exact q
    have hz : h'.objs.size = h3.objs.size + 1 := by rw [hs'.1, Heap.size_push]
    have kp : ∀ b o, h3.get? b = some o → (h'.push { cls := .type "generator", data := .fields #[.int s2.gens.size 0, .str "<genexpr>" (tk + 1), .str (X.env.qual ++ "<genexpr>") (tk + 1 + 1)] }).get? b = some o := fun b o e =>
      Heap.get?_push_of_some _ (hs'.extBut b o (Nat.ne_of_lt (Heap.lt_size e)) (Heap.get?_push_of_some _ e))
    refine hQ J H1 (upd H1 P (.tbl (ps ++ more))) code it fp tn { s2 with heap := h3, toks := tk } _ _ h'.objs.size { cls := .type "generator", data := .fields #[.int s2.gens.size 0, .str "<genexpr>" (tk + 1), .str (X.env.qual ++ "<genexpr>") (tk + 1 + 1)] } _ q1 ⟨⟨_, upd_same, ht3⟩, fun b hb => upd_ne hb⟩ I4 T (T.keep _ _ _ st1 fun b hb o e => keep3 b o (fpP b hb) e) (fun b hb => ⟨⟨?_, (f1 b hb).2⟩, Nat.lt_of_lt_of_le (fpz b hb) hsz⟩) kp (hn'.push _) (by show h3.objs.size < _; omega) (Heap.get?_push_size _ rfl) (fun h e => ⟨_, _, _, e, rfl, rfl, rfl⟩) fun v z => by cases z
    rw [upd_ne (fpP b hb)]; exact (f1 b hb).1
  cases hf : codeAmong gpos ps.toList with
  | none =>
    refine wpAny_genexprCodeX hcode (cd.code hPs ht) (cd.tab hPs) hf fun c' h' tk hx hge hlt hco' _ htab' _ => ?_
    obtain ⟨o1, vs, f1, tf, fl, tg, inF, tx, tt, op, _, _, _, _, _, _, _, _, _, htr, _⟩ := hco'
    exact cont _ h' tk _ hx (Nat.le_trans hge (Nat.le_of_lt hlt)) htab'.2 htr
  | some cv =>
    refine wpAny_genexprCode_hit hcode (cd.code hPs ht) hf ?_
    exact cont cv s2.heap s2.toks #[] (Heap.ExtBut.refl _ _) (Nat.le_refl _) (by simpa using hPs) (by simpa using ht)
end
end Gw

set_option Elab.async false
set_option linter.all false
set_option maxRecDepth 100000
set_option maxHeartbeats 4000000
/-! The value layer: all(..), any(..) of a generator expression: the rule. -/
namespace Gw
open PySem PySem.Spec PyProof.Rows L2 GxR
section
variable {X : Cx}
/-- the generator's around -/
abbrev genA (A : Around) (elt tg iter : Expr) (ifs : List Expr) (scope : Scope) (gpos : Pos) (it : Addr) (cenv : PySem.Env) : Around := A.in1.in1.over (.compLoop (.GeneratorExp elt [⟨tg, iter, ifs, 0⟩] scope gpos) 0 (.ref it) .none cenv) []
theorem genA_room {k : Nat} {A : Around} {elt tg iter : Expr} {ifs : List Expr} {scope : Scope} {gpos : Pos} {it : Addr} {cenv : PySem.Env} (r : Room (k + 1) A) : Room k (genA A elt tg iter ifs scope gpos it cenv) := by
  refine ⟨r.hd, ?_, ?_⟩
  · have h : (genA A elt tg iter ifs scope gpos it cenv).depth = A.depth + 1 := rfl
    have := r.dp
    omega
  · have h : (genA A elt tg iter ifs scope gpos it cenv).units = A.units + 5 := rfl
    have := r.un
    omega
/-- everything is ready: the sleeping generator -/
theorem gen_ready {ps : List Addr} {pins : List (Addr × Obj)} {σ : L2.St} {elt tg iter : Expr} {ifs : List Expr} {scope : Scope} {own : List (Str × Nat)} {gpos : Pos} {g : TG} {tt : TT} {te : TE} {k : Nat} (hr : Room (k + 1) X.A) (hc : X.calm = true) (hN : X.N.Nodup) (S : GenSc scope) (ok : BlkOk X.N X.env.scope scope own)
    (hg : ∀ (Ag : Around) (s : Shared) (H : Hp) (C : Addr) (code : Value) (cl : List (Str × Addr)) (fp : List Addr) (pn : List (Addr × Obj)), Room k Ag → PG (genX X Ag s H (genEnv scope cl C code builtinsNs X.env) fp pn) tg g)
    (ht : ∀ (Ag : Around) (s : Shared) (H : Hp) (C : Addr) (code : Value) (cl : List (Str × Addr)) (fp : List Addr) (pn : List (Addr × Obj)), Room k Ag → PTs (genX X Ag s H (genEnv scope cl C code builtinsNs X.env) fp pn) ifs tt)
    (he : ∀ (Ag : Around) (s : Shared) (H : Hp) (C : Addr) (code : Value) (cl : List (Str × Addr)) (fp : List Addr) (pn : List (Addr × Obj)), Room k Ag → PE (genX X Ag s H (genEnv scope cl C code builtinsNs X.env) fp pn) elt te)
    {J : It} {H2 : Hp} {code : Value} {it : Addr} {fp : List Addr} {tn : Nat → Heap → Prop} {s4 : Shared} {h5 : Heap} {m : Str → Option Value} {a : Addr} {go : Obj} {t5 : Nat} {W : Int → Nat → Nat → Hp → Prop} {Yd : Int → Nat → Nat → V → Hp → Prop} {Fin : Int → Hp → Prop} {Cor : Int → Heap → Prop} {m0 : Nat}
    (I4 : L2.Inv X pins σ H2 s4) (T : Turn X.prog X.w X.K tg J fp it tn) (st : tn 0 s4.heap) (hfp : ∀ b ∈ fp, FpOk X pins H2 b ∧ b < s4.heap.objs.size) (kp : ∀ b o, s4.heap.get? b = some o → h5.get? b = some o) (hns : h5.Ns s4.heap.objs.size m) (ha : s4.heap.objs.size < a) (hgo : h5.get? a = some go) (hgd : ∀ v, go.data ≠ .cell v)
    (turn : ∀ tot, GTurn J g tt te σ (own.map (·.2)) (W tot) (Yd tot) (Fin tot)) :
    GReady (genX X (genA X.A elt tg iter ifs scope gpos it (genEnv scope (cloFrom X.env.cells scope.names []) s4.heap.objs.size code builtinsNs X.env)) s4 H2 (genEnv scope (cloFrom X.env.cells scope.names []) s4.heap.objs.size code builtinsNs X.env) fp [(a, go)]) X.A.in1.in1 ps fp tn (L2.wipe σ (own.map (·.2))) Cor W Yd Fin (.fresh (.compStart (.GeneratorExp elt [⟨tg, iter, ifs, 0⟩] scope gpos) 0 (.ref it) .none (genEnv scope (cloFrom X.env.cells scope.names []) s4.heap.objs.size code builtinsNs X.env))) 0 m0 m0 ∧
    GJ (genX X (genA X.A elt tg iter ifs scope gpos it (genEnv scope (cloFrom X.env.cells scope.names []) s4.heap.objs.size code builtinsNs X.env)) s4 H2 (genEnv scope (cloFrom X.env.cells scope.names []) s4.heap.objs.size code builtinsNs X.env) fp [(a, go)]) [] fp tn (L2.wipe σ (own.map (·.2))) 0 H2
      { s4 with gens := s4.gens.push (.fresh (.compStart (.GeneratorExp elt [⟨tg, iter, ifs, 0⟩] scope gpos) 0 (.ref it) .none (genEnv scope (cloFrom X.env.cells scope.names []) s4.heap.objs.size code builtinsNs X.env))), toks := t5, heap := h5 } := by
  generalize hce : genEnv scope (cloFrom X.env.cells scope.names []) s4.heap.objs.size code builtinsNs X.env = cenv
  have hf : (genA X.A elt tg iter ifs scope gpos it cenv).frames = some (cenv :: X.stack) := by
    show pushEnvs [cenv] (pushEnvs [] X.A.frames) = _
    rw [I4.ok.frames]; rfl
  have hR : Room k (genA X.A elt tg iter ifs scope gpos it cenv) := genA_room hr
  have Ig : L2.Inv (genX X (genA X.A elt tg iter ifs scope gpos it cenv) s4 H2 cenv fp [(a, go)]) [] (L2.wipe σ (own.map (·.2))) H2 { s4 with gens := s4.gens.push (.fresh (.compStart (.GeneratorExp elt [⟨tg, iter, ifs, 0⟩] scope gpos) 0 (.ref it) .none cenv)), toks := t5, heap := h5 } := by
    have q := gen_start (Ag := genA X.A elt tg iter ifs scope gpos it cenv) (code := code) (d5 := s4.drawn) (t5 := t5) (g5 := s4.gens.push (.fresh (.compStart (.GeneratorExp elt [⟨tg, iter, ifs, 0⟩] scope gpos) 0 (.ref it) .none cenv))) I4 ok S.cell hN hfp hr.hd (by rw [hce]; exact hf) kp hns ha hgo hgd (I4.bare.push rfl)
    rw [hce] at q
    exact q
  have st5 : tn 0 h5 := T.keep _ _ _ st fun b hb o e => kp b o e
  have nfp : ∀ b ∈ fp, H2 b = none := fun b hb => (hfp b hb).1.1
  have pg := hg (genA X.A elt tg iter ifs scope gpos it cenv) s4 H2 s4.heap.objs.size code (cloFrom X.env.cells scope.names []) fp [(a, go)] hR
  have pt := ht (genA X.A elt tg iter ifs scope gpos it cenv) s4 H2 s4.heap.objs.size code (cloFrom X.env.cells scope.names []) fp [(a, go)] hR
  have pe := he (genA X.A elt tg iter ifs scope gpos it cenv) s4 H2 s4.heap.objs.size code (cloFrom X.env.cells scope.names []) fp [(a, go)] hR
  rw [hce] at pg pt pe
  refine ⟨fun s'' H' pins tot j hP hcr ⟨m', hm', w'⟩ => ⟨rfl, ?_⟩, ⟨Ig, st5, nfp⟩⟩
  refine gen_begin (X := genX X (genA X.A elt tg iter ifs scope gpos it cenv) s4 H2 cenv fp [(a, go)]) (i := 0) T j.tn ?_
  refine gen_loop (X := genX X (genA X.A elt tg iter ifs scope gpos it cenv) s4 H2 cenv fp [(a, go)]) rfl hc ?_ rfl rfl T (fun p hp z => ?_) pg pt pe turn m' 0 H' s'' pins tot j hP w' m0 hm' s'' (fun p hp => (j.inv.pin p (List.mem_append_right _ hp)).1) hcr
  · show cenv.scope.isCoroutine = false
    rw [← hce]; exact S.co
  · have : p = (a, go) := by simpa using hp
    subst this
    exact absurd (Nat.lt_trans (hfp _ z).2 ha) (Nat.lt_irrefl _)
/-- back in the def's frame -/
theorem gen_back {pins : List (Addr × Obj)} {σ σ' : L2.St} {H2 H' : Hp} {s4 s' : Shared} {Ag : Around} {cenv : PySem.Env} {fp : List Addr} {pn pinsG : List (Addr × Obj)} (I4 : L2.Inv X pins σ H2 s4) (hfp : ∀ b ∈ fp, FpOk X pins H2 b ∧ b < s4.heap.objs.size) (I : L2.Inv (genX X Ag s4 H2 cenv fp pn) pinsG σ' H' s') : L2.Inv X pins σ H' s' :=
  I4.call' (ch := fp) I.os I.base I.hok I.bare fun b hb => ⟨(hfp b hb).1.2.2.2.1, (hfp b hb).1.2.1, (hfp b hb).1.2.2.2.2.1, (hfp b hb).1.2.2.2.2.2⟩
theorem boot_gen (stop : Bool) : bootBuiltins ((gnN stop : String) : Str) = some (.builtin (gnN stop)) := by cases stop <;> rfl
theorem pe_genB {c P : Addr} {elt tg iter : Expr} {ifs : List Expr} {scope : Scope} {own : List (Str × Nat)} {gpos p pos : Pos} {wi : TI} {g : TG} {tt : TT} {te : TE} {k : Nat} {stop : Bool} (hr : Room (k + 1) X.A) (hc : X.calm = true) (hN : X.N.Nodup) (TB : TabB X.base X.mg c P) (hcode : X.env.code = .ref c) (S : GenSc scope) (ok : BlkOk X.N X.env.scope scope own)
    (hgl : Gl X ((gnN stop : String) : Str)) (hm : X.mg ((gnN stop : String) : Str) = none) (hi : PI X tg iter wi) (hs : ∀ v, genFold iter X.env v = pure v)
    (hg : ∀ (Ag : Around) (s : Shared) (H : Hp) (C : Addr) (code : Value) (cl : List (Str × Addr)) (fp : List Addr) (pn : List (Addr × Obj)), Room k Ag → PG (genX X Ag s H (genEnv scope cl C code builtinsNs X.env) fp pn) tg g)
    (ht : ∀ (Ag : Around) (s : Shared) (H : Hp) (C : Addr) (code : Value) (cl : List (Str × Addr)) (fp : List Addr) (pn : List (Addr × Obj)), Room k Ag → PTs (genX X Ag s H (genEnv scope cl C code builtinsNs X.env) fp pn) ifs tt)
    (he : ∀ (Ag : Around) (s : Shared) (H : Hp) (C : Addr) (code : Value) (cl : List (Str × Addr)) (fp : List Addr) (pn : List (Addr × Obj)), Room k Ag → PE (genX X Ag s H (genEnv scope cl C code builtinsNs X.env) fp pn) elt te) :
    PE X (.Call (.Name ((gnN stop : String) : Str) p) [.GeneratorExp elt [⟨tg, iter, ifs, 0⟩] scope gpos] [] pos) (tGenB P stop wi g tt te (own.map (·.2))) := by
  refine ⟨fun pins s σ H Q I h => ?_⟩
  have hst : starEach [.GeneratorExp elt [⟨tg, iter, ifs, 0⟩] scope gpos] X.env = (false, eval (.GeneratorExp elt [⟨tg, iter, ifs, 0⟩] scope gpos) X.env) :: starEach [] X.env := rfl
  refine wpAny_Call_Name_kw (ld_blt I hgl hm (boot_gen stop) ?_ (by cases stop <;> decide +kernel) (by cases stop <;> decide +kernel))
  refine PyProof.Rows.callWith_builtin1 ?_ hst (by rfl)
  rw [hst]
  show wpAny _ _ (spliced ((false, eval (.GeneratorExp elt [⟨tg, iter, ifs, 0⟩] scope gpos) X.env) :: backTo pos (starEach [] X.env))) _ _ s
  refine Calls.spliced_cons (gen_made hr hc hN TB hcode S ok hi hs I h fun J H1 H2 code it fp tn s4 h5 m a go t5 q tab I4 T st hfp kp hns ha hgo hgen hgd => ?_)
  obtain ⟨W, ⟨m0, w0⟩, turn⟩ := q H2 tab
  refine Calls.spliced_nil ?_
  have G0 := gen_ready (ps := []) (m0 := m0) (W := fun _ => W) (Yd := fun _ i m y H => ∃ b, y = .bl b ∧ (b ≠ stop → ∃ m', m' < m ∧ W (i + 1) m' H) ∧ (b = stop → Q (.bl stop) H)) (Fin := fun _ H => Q (.bl (!stop)) H) (Cor := fun _ _ => True) (iter := iter) (gpos := gpos) (t5 := t5) (code := code) hr hc hN S ok hg ht he I4 T st hfp kp hns ha hgo hgd (fun _ => turn)
  have G : GAt (genX X (genA X.A elt tg iter ifs scope gpos it (genEnv scope (cloFrom X.env.cells scope.names []) s4.heap.objs.size code builtinsNs X.env)) s4 H2 (genEnv scope (cloFrom X.env.cells scope.names []) s4.heap.objs.size code builtinsNs X.env) fp [(a, go)]) X.A.in1.in1 [] fp tn (L2.wipe σ (own.map (·.2))) (fun _ _ => True) (fun _ => W) _ _ s4.gens.size m0 0 H2 _ := ⟨trivial, _, 0, m0, [], Array.getElem?_push_size .., G0.1, G0.2, Pn.nil, m0, Nat.le_refl _, w0⟩
  have room : X.A.depth < recursionLimit := by have := hr.dp; omega
  have fin : ∀ (b : Bool) (F : Hp → Prop), (∀ H', F H' → Q (.bl b) H') → ∀ s', gEnd (genX X (genA X.A elt tg iter ifs scope gpos it (genEnv scope (cloFrom X.env.cells scope.names []) s4.heap.objs.size code builtinsNs X.env)) s4 H2 (genEnv scope (cloFrom X.env.cells scope.names []) s4.heap.objs.size code builtinsNs X.env) fp [(a, go)]) (L2.wipe σ (own.map (·.2))) F s' → EP X pins σ Q (.bool b) s' := fun b F hF s' ⟨H', _, I', f⟩ => ⟨.bl b, H', gen_back I4 hfp I', rfl, hF H' f⟩
  cases stop with
  | false =>
    show wpAny _ _ (call (.builtin "all") [.ref a]) _ _ _
    refine call_function_tree F.kind_all F.plain_all F.entry_all (F.args_all1 _) ?_
    unfold Builtin.«all»
    refine wpAny_bind (m := oneArg "all" _) (wpAny_pure ?_)
    refine wpAny_bind (wpAny_pyIter_gen (hgen _ hgo) ?_)
    refine wpAny_pure ⟨plainId_quiet F.plain_all_loop _, all_loop (A := X.A) (FinB := fun H => Q (.bl false) H) hr.hd room hgen (List.mem_singleton.mpr rfl) (fun _ i m y H ⟨b, e, h1, h2⟩ => ⟨b, e, fun z => h1 (by rw [z]; decide), fun z => h2 z⟩) (fun _ => trivial) (fun s' _ e => fin true _ (fun _ f => f) s' e) (fun s' e => fin false _ (fun _ f => f) s' e) m0 _ _ _ G⟩
  | true =>
    show wpAny _ _ (call (.builtin "any") [.ref a]) _ _ _
    refine call_function_tree F.kind_any F.plain_any F.entry_any (F.args_any1 _) ?_
    unfold Builtin.«any»
    refine wpAny_bind (m := oneArg "any" _) (wpAny_pure ?_)
    refine wpAny_bind (wpAny_pyIter_gen (hgen _ hgo) ?_)
    refine wpAny_pure ⟨plainId_quiet F.plain_any_loop _, any_loop (A := X.A) (FinB := fun H => Q (.bl true) H) hr.hd room hgen (List.mem_singleton.mpr rfl) (fun _ i m y H ⟨b, e, h1, h2⟩ => ⟨b, e, fun z => h1 (by rw [z]; decide), fun z => h2 z⟩) (fun _ => trivial) (fun s' _ e => fin false _ (fun _ f => f) s' e) (fun s' e => fin true _ (fun _ f => f) s' e) m0 _ _ _ G⟩
end
end Gw

set_option Elab.async false
set_option linter.all false
set_option maxRecDepth 100000
set_option maxHeartbeats 2000000
/-! The value layer: sets of ints and texts, whose order in the table is known enough to gather them. -/
namespace Gw
open PySem PySem.Spec PyProof.Rows L2

def mkey : Value → Key
  | .int k _ => .inl k
  | .str x _ => .inr x
  | _ => .inl 0
theorem mkey_of {k : Key} {u : Value} (r : RelV (kV k) u) : mkey u = k := by
  cases k with
  | inl i => obtain ⟨t, rfl⟩ := (show ∃ t, u = Value.int i t from r); rfl
  | inr x => obtain ⟨t, rfl⟩ := (show ∃ t, u = Value.str x t from r); rfl
section
variable {P : Program} {w : World} {h h' : Heap} {a : Addr} {S : Key → Bool} {n : Nat}
def GoodM (w : World) (e : Int × Value) : Prop := ∃ k, RelV (kV k) e.2 ∧ e.1 = keyH w k
def keysM (l : List (Int × Value)) : List Key := l.map fun e => mkey e.2
def SetM (w : World) (h : Heap) (a : Addr) (S : Key → Bool) (n : Nat) : Prop :=
  ∃ o es ep t, h.get? a = some o ∧ o.ExactSet ∧ o.data = .set es ep t ∧ (∀ e ∈ es.toList, GoodM w e) ∧ (keysM es.toList).Nodup ∧ (∀ k, S k = true ↔ k ∈ keysM es.toList) ∧
    es.size < scanBound ∧ t.fits es.size = true ∧ es.size = n ∧ Ris t.place.toList ∧ (w.params.followText "set-order" = true ∨ t.led = true)
theorem SetM.at (R : SetM w h a S n) (k : ∀ o, h.get? a = some o → h'.get? a = some o) : SetM w h' a S n := by
  obtain ⟨o, es, ep, t, ho, r⟩ := R
  exact ⟨o, es, ep, t, k o ho, r⟩
theorem goodM_elems {l : List (Int × Value)} (g : ∀ e ∈ l, GoodM w e) : ElemsOf (mixKind P w) l := fun e he => by
  obtain ⟨k, h1, h2⟩ := g e he
  exact ⟨⟨k, kV_is h1, h2⟩, key_scan h1⟩
theorem goodM_is {e : Int × Value} (g : GoodM w e) (k : Key) : (mixKind P w).is k e.2 = true ↔ mkey e.2 = k := by
  obtain ⟨k0, h1, _⟩ := g
  rw [mkey_of h1]
  constructor
  · intro h
    exact ((mixKind P w).inj e.2 k k0 h (kV_is h1)).symm
  · rintro rfl
    exact kV_is h1
theorem goodM_mem {l : List (Int × Value)} (g : ∀ e ∈ l, GoodM w e) (k : Key) : k ∈ keysM l ↔ ∃ e ∈ l, (mixKind P w).is k e.2 = true := by
  unfold keysM
  rw [List.mem_map]
  constructor
  · rintro ⟨e, he, q⟩
    exact ⟨e, he, (goodM_is (P := P) (g e he) k).2 q⟩
  · rintro ⟨e, he, q⟩
    exact ⟨e, he, (goodM_is (P := P) (g e he) k).1 q⟩
theorem SetM.setOf (R : SetM w h a S n) : h.SetOf (mixKind P w) a S n := by
  obtain ⟨o, es, ep, t, ho, hx, hd, g, nd, hm, hb, hf, hn, _⟩ := R
  exact ⟨o, es, ep, t, ho, hx, hd, goodM_elems g, fun k => (hm k).trans (goodM_mem g k), hb, hf, hn⟩
end
section
variable {P : Program} {w : World} {A : Around} {E : Value → Shared → Prop} {s : Shared} {a : Addr} {S : Key → Bool} {n : Nat}
theorem setM_tail {g : Bool → Sem Unit} (hg : ∀ (b : Bool) (s₁ : Shared) (Q' : Unit → Shared → Prop), Q' () s₁ → wpAny (model P w) A (g b) Q' E s₁)
    {o : Obj} {es : Array (Int × Value)} {ep : Nat} {t : SetTable} (ho : s.heap.get? a = some o) (hex : o.ExactSet) (hd : o.data = .set es ep t)
    {es1 : Array (Int × Value)} {t2 : SetTable} {S' : Key → Bool} (g1 : ∀ e ∈ es1.toList, GoodM w e) (nd1 : (keysM es1.toList).Nodup) (m1 : ∀ k, S' k = true ↔ k ∈ keysM es1.toList)
    (hb1 : es1.size < scanBound) (hf2 : t2.fits es1.size = true) (hr : Ris t2.place.toList) (hl : w.params.followText "set-order" = true ∨ t2.led = true) {wasDummy : Bool} {R : Option Bool → Shared → Prop}
    (hR : ∀ h', Heap.SameBut a s.heap h' → SetM w h' a S' es1.size → R (some true) { s with heap := h' }) :
    wpAny (model P w) A (do
        storeSet a es1 t2
        if (!wasDummy && t2.tooFull) = true then do
            g (relayAll t2 es1 (SetTable.grown es1.size)).2.2
            storeSet a (relayAll t2 es1 (SetTable.grown es1.size)).1 (relayAll t2 es1 (SetTable.grown es1.size)).2.1
            pure (some true)
          else pure (some true)) R E s := by
  refine wpAny_bind (wpAny_storeSet_of ho hd ?_ (fits_of_scanBound hb1))
  have ho1 := store_at (es' := es1) (t' := t2) ho hd
  have sb1 := Heap.SameBut.update s.heap a (Obj.putSet es1 t2)
  split
  · have pm := relayAll_perm t2 es1 (SetTable.grown es1.size)
    have hf3 := relayAll_fits t2 es1 (SetTable.grown es1.size)
    have hr3 := relayAll_ris t2 es1 (SetTable.grown es1.size)
    have hl3 := relayAll_led t2 es1 (SetTable.grown es1.size)
    generalize relayAll t2 es1 (SetTable.grown es1.size) = Z at pm hf3 hr3 hl3 ⊢
    obtain ⟨es2, t3, gave⟩ := Z
    dsimp only at pm hf3 hr3 hl3 ⊢
    have hsz : es2.size = es1.size := by rw [← Array.length_toList, pm.length_eq, Array.length_toList]
    have hb2 : es2.size < scanBound := by rw [hsz]; exact hb1
    refine wpAny_bind (hg _ _ _ ?_)
    refine wpAny_bind (wpAny_storeSet_of ho1 rfl ?_ (fits_of_scanBound hb2))
    have ho2 := store_at (es' := es2) (t' := t3) ho1 rfl
    have pk : (keysM es2.toList).Perm (keysM es1.toList) := pm.map _
    refine wpAny_pure (hR _ (sb1.trans (Heap.SameBut.update _ a _)) ?_)
    exact ⟨_, es2, _, t3, ho2, hex, rfl, fun e he => g1 e (pm.mem_iff.mp he), pk.nodup_iff.mpr nd1, fun k => (m1 k).trans pk.mem_iff.symm, hb2, hf3, hsz, hr3, hl.imp id fun z => by rw [hl3]; exact z⟩
  · exact wpAny_pure (hR _ sb1 ⟨_, es1, _, t2, ho1, hex, rfl, g1, nd1, m1, hb1, hf2, rfl, hr, hl⟩)
theorem setM_hashed {k : Key} {u : Value} (ru : RelV (kV k) u) {Q : Bool → Shared → Prop} (R : SetM w s.heap a S n) (room : n + 1 < scanBound)
    (hQ : ∀ h', Heap.SameBut a s.heap h' → SetM w h' a (fun j => S j || decide (j = k)) (if S k = true then n else n + 1) → Q (!S k) { s with heap := h' }) :
    wpAny (model P w) A (setAddHashed a u ((mixKind P w).hash k)) Q E s := by
  obtain ⟨o, es, ep, t, ho, hex, hd, g, nd, hm, hb, hf, hn, hr, hl⟩ := R
  have hkey : (mixKind P w).is k u = true := kV_is ru
  have hsc : u.scannable = true := key_scan ru
  have hel : ElemsOf (mixKind P w) es.toList := goodM_elems g
  unfold setAddHashed setAddHashedIn
  refine wpAny_holding (wpAny_bind (wpAny_setState_of ho hd hf ?_))
  dsimp only
  rw [byScan_of hsc hb hel]
  simp only [↓reduceIte]
  unfold setAddByScan
  refine wpAny_bind ?_
  refine wpAny_bind (wpAny_rule ?_)
  refine wpAny_bind (wpAny_setScan_of hkey ho hd hf hel ?_)
  cases hfi : List.findIdx? (fun e => (mixKind P w).is k e.2) es.toList with
  | some j =>
    dsimp only
    obtain ⟨hj, pj, _⟩ := List.findIdx?_eq_some_iff_getElem.mp hfi
    have hSk : S k = true := (hm k).2 ((goodM_mem (P := P) (w := w) g k).2 ⟨es.toList[j], List.getElem_mem hj, pj⟩)
    refine wpAny_pure (wpAny_pure ?_)
    have q := hQ s.heap (Heap.SameBut.refl a s.heap) ⟨o, es, ep, t, ho, hex, hd, g, nd, fun i => by
      rw [Bool.or_eq_true, decide_eq_true_eq, ← hm i]
      exact ⟨fun z => z.elim id (fun e => e ▸ hSk), .inl⟩, hb, hf, by rw [if_pos hSk]; exact hn, hr, hl⟩
    rw [hSk] at q
    exact q
  | none =>
    dsimp only
    have hnk : k ∉ keysM es.toList := fun z => by
      obtain ⟨e, he, q⟩ := (goodM_mem (P := P) (w := w) g k).1 z
      have c := List.findIdx?_eq_none_iff.mp hfi e he
      rw [q] at c
      cases c
    have hSk : S k = false := by
      cases q : S k with
      | false => rfl
      | true => exact absurd ((hm k).1 q) hnk
    have hgw : ∀ (b : Bool) {s₁ : Shared} {Q' : Unit → Shared → Prop}, Q' () s₁ → wpAny (model P w) A (match b with | true => rule "set.scan.the-table-gave-way" | false => pure ()) Q' E s₁ :=
      fun b s₁ Q' q => by cases b <;> first | exact wpAny_pure q | exact wpAny_rule q
    have pm := layNew_perm t es ((mixKind P w).hash k) u
    have hf1 := layNew_fits t es ((mixKind P w).hash k) u
    have hr1 := layNew_ris t es ((mixKind P w).hash k) u hr
    have hl1 := layNew_led t es ((mixKind P w).hash k) u
    generalize layNew t es ((mixKind P w).hash k) u = Z at pm hf1 hr1 hl1 ⊢
    obtain ⟨es1, t1, wasDummy, gave⟩ := Z
    dsimp only at pm hf1 hr1 hl1 ⊢
    rw [Array.toList_push] at pm
    have pc : es1.toList.Perm (((mixKind P w).hash k, u) :: es.toList) := pm.trans (List.perm_append_singleton _ _)
    have pk : (keysM es1.toList).Perm (k :: keysM es.toList) := by
      have q := pc.map fun e => mkey e.2
      rw [List.map_cons, mkey_of ru] at q
      exact q
    have g1 : ∀ e ∈ es1.toList, GoodM w e := fun e he => by
      rcases List.mem_cons.mp (pc.mem_iff.mp he) with z | z
      · rw [z]; exact ⟨k, ru, rfl⟩
      · exact g e z
    have nd1 : (keysM es1.toList).Nodup := pk.nodup_iff.mpr (List.nodup_cons.mpr ⟨hnk, nd⟩)
    have m1 : ∀ i, (S i || decide (i = k)) = true ↔ i ∈ keysM es1.toList := fun i => by
      rw [Bool.or_eq_true, decide_eq_true_eq, hm i, pk.mem_iff, List.mem_cons]
      exact Or.comm
    have hsz : es1.size = n + 1 := by rw [← Array.length_toList, pc.length_eq, List.length_cons, Array.length_toList, hn]
    have hb1 : es1.size < scanBound := by rw [hsz]; exact room
    have hled : w.params.followText "set-order" = true ∨ t1.led = true := hl.imp id fun z => by rw [hl1]; exact z
    have fin : ∀ h', Heap.SameBut a s.heap h' → SetM w h' a (fun j => S j || decide (j = k)) es1.size → Q true { s with heap := h' } := fun h' sb r => by
      have q := hQ h' sb
      rw [hSk] at q
      rw [hsz] at r
      exact q r
    refine wpAny_bind (hgw _ ?_)
    split
    · refine wpAny_bind ?_
      rw [hashByValue_scannable 8 hsc]
      refine wpAny_pure ?_
      refine setM_tail ?_ ho hex hd g1 nd1 m1 hb1 ?_ ?_ ?_ ?_
      · intro b s₁ Q' q; cases b <;> first | exact wpAny_pure q | exact wpAny_rule q
      · first | (split <;> first | exact hf1 | exact SetTable.fits_plain_off hf1) | exact hf1
      · first | (split <;> exact hr1) | exact hr1
      · first | (split <;> exact hled) | exact hled
      · intro h' sb r; dsimp only; exact wpAny_pure (fin h' sb r)
    · refine wpAny_bind (wpAny_pure ?_)
      simp only [↓reduceIte]
      refine setM_tail ?_ ho hex hd g1 nd1 m1 hb1 hf1 hr1 hled ?_
      · intro b s₁ Q' q; cases b <;> first | exact wpAny_pure q | exact wpAny_rule q
      · intro h' sb r; dsimp only; exact wpAny_pure (fin h' sb r)
theorem setM_add {k : Key} {u : Value} (ru : RelV (kV k) u) {Q : Value → Shared → Prop} (R : SetM w s.heap a S n) (room : n + 1 < scanBound)
    (hQ : ∀ h', Heap.SameBut a s.heap h' → SetM w h' a (fun j => S j || decide (j = k)) (if S k = true then n else n + 1) → Q .none { s with heap := h', toks := s.toks + 1 }) :
    wpAny (model P w) A (call (.builtin "set.add") [.ref a, u]) Q E s := by
  have hS : s.heap.SetOf (mixKind P w) a S n := R.setOf
  refine wpAny_call_entry F.slot_set_add hS.typeIs F.entry_set_add ?_ (F.args_set_add_2 _ _)
  unfold Builtin.«set.add» Builtin.Frozenset.oneOther
  simp only [List.isEmpty_nil, bind_assoc]
  unfold Builtin.Frozenset.addrOf setAdd
  refine wpAny_bind (wpAny_pure ?_)
  try dsimp only
  refine wpAny_bind (wpAny_pure ?_)
  try dsimp only
  refine wpAny_bind ?_
  refine wpAny_holding ?_
  refine wpAny_bind ((mixKind P w).pyHash (kV_is ru) ?_)
  refine setM_hashed (s := { s with toks := s.toks + 1 }) ru R room fun h' sb r => ?_
  show wpAny _ _ (ret Value.none) _ _ _
  exact wpAny_pure ⟨_, rfl, hQ h' sb r⟩
theorem setM_fresh {h : Heap} (w : World) : SetM w (h.push { cls := .type "set", dict := none, data := .set #[] 0 (.fresh 0 0 (!w.params.followText "set-order")) }) h.objs.size (fun _ => false) 0 :=
  ⟨_, #[], 0, _, Heap.get?_push_size _ rfl, ⟨rfl, rfl, rfl⟩, rfl, (fun e he => by simp at he), (by simp [keysM]), (fun k => by simp [keysM]), (by decide), (by rfl), rfl, List.Pairwise.nil, by
    show _ ∨ (!w.params.followText "set-order") = true
    cases w.params.followText "set-order"
    · exact .inr rfl
    · exact .inl rfl⟩
end
def SetMO (w : World) (a : Addr) (S : Key → Bool) (n : Nat) : HO := .ext fun h => SetM w h a S n
theorem setMO_new {w : World} {P : Program} {H : Hp} {h : Heap} {a : Addr} {S : Key → Bool} {n : Nat} (R : SetM w h a S n) : ObjOk P w H h a (SetMO w a S n) := by
  have ⟨o, _, _, _, ho, _⟩ := R
  exact ⟨R, ⟨o, ho⟩, fun h1 h2 p k => SetM.at p k⟩
section
variable {X : Cx}
theorem setMO_get {pins : List (Addr × Obj)} {σ : L2.St} {H : Hp} {s : Shared} {a : Addr} {S : Key → Bool} {n : Nat} (I : L2.Inv X pins σ H s) (ha : H a = some (SetMO X.w a S n)) : SetM X.w s.heap a S n := (I.hok a _ ha).1
theorem addM_ok {pins : List (Addr × Obj)} {σ : L2.St} {H : Hp} {s : Shared} {E : Value → Shared → Prop} {Da : Addr} {S : Key → Bool} {n : Nat} {k : Key} {u : Value} {Q : Value → Shared → Prop} (I : L2.Inv X pins σ H s) (ru : RelV (kV k) u) (hD : H Da = some (SetMO X.w Da S n)) (room : n + 1 < scanBound)
    (h : ∀ s', L2.Inv X pins σ (upd H Da (SetMO X.w Da (fun j => S j || decide (j = k)) (if S k = true then n else n + 1))) s' → Q .none s') : wpAny (model X.prog X.w) X.A (call (.builtin "set.add") [.ref Da, u]) Q E s := by
  have R := setMO_get I hD
  refine setM_add ru R room fun h' sb new => ?_
  have he : ∃ u, h'.get? Da = some u := by
    have ⟨o, _, _, _, ho, _⟩ := new
    exact ⟨o, ho⟩
  exact h _ (I.write (e := Da) (t' := s.toks + 1) (by rw [hD]; trivial) (.inl rfl) (fun b u hb hu => (sb.2 b hb).trans hu) he (setMO_new new))
end
end Gw

set_option Elab.async false
set_option linter.all false
set_option maxRecDepth 100000
set_option maxHeartbeats 1000000
/-! The value layer: sorted sets of keys, as lists. Plain Lean. -/
namespace Gw
theorem ltL_irr : ∀ l : List Nat, ltL l l = false
  | [] => rfl
  | a :: l => by simp [ltL, ltL_irr l]
theorem ltL_trans : ∀ {a b c : List Nat}, ltL a b = true → ltL b c = true → ltL a c = true
  | _, [], _, h, _ => by simp [ltL] at h
  | _, _ :: _, [], _, h => by simp [ltL] at h
  | [], _ :: _, _ :: _, _, _ => by simp [ltL]
  | a :: as, b :: bs, c :: cs, h, g => by
    simp only [ltL] at h g ⊢
    split at h
    · split at g
      · rw [if_pos (by omega)]
      · split at g
        · rw [if_pos (by omega)]
        · cases g
    · split at h
      · rename_i e
        subst e
        split at g
        · rw [if_pos (by omega)]
        · split at g
          · rename_i e2
            subst e2
            rw [if_neg (by omega), if_pos rfl]
            exact ltL_trans h g
          · cases g
      · cases h
theorem ltL_tri : ∀ a b : List Nat, ltL a b = true ∨ a = b ∨ ltL b a = true
  | [], [] => .inr (.inl rfl)
  | [], _ :: _ => .inl rfl
  | _ :: _, [] => .inr (.inr rfl)
  | a :: as, b :: bs => by
    simp only [ltL]
    by_cases h : a < b
    · left; rw [if_pos h]
    · by_cases h2 : b < a
      · right; right; rw [if_pos h2]
      · have e : a = b := by omega
        subst e
        rcases ltL_tri as bs with q | q | q
        · left; rw [if_neg h, if_pos rfl]; exact q
        · right; left; rw [q]
        · right; right; rw [if_neg h, if_pos rfl]; exact q
theorem key_irr {a : D} (h : a.isKey = true) : D.ltb a a = false := by
  cases a <;> simp [D.isKey] at h
  · simp [D.ltb]
  · simp [D.ltb, ltL_irr]
theorem key_trans {a b c : D} (ha : a.isKey = true) (hb : b.isKey = true) (h : D.ltb a b = true) (g : D.ltb b c = true) : D.ltb a c = true := by
  cases a <;> simp [D.isKey] at ha <;> cases b <;> simp [D.isKey] at hb <;> first | (simp [D.ltb] at h; done) | skip
  · cases c <;> simp [D.ltb] at h g ⊢
    omega
  · cases c <;> simp [D.ltb] at h g ⊢
    exact ltL_trans h g
theorem key_tri {a b : D} (ha : a.isKey = true) (h : D.alike a b = true) : D.ltb a b = true ∨ a = b ∨ D.ltb b a = true := by
  cases a <;> simp [D.isKey] at ha <;> cases b <;> simp [D.alike] at h
  · rename_i i j
    simp only [D.ltb, decide_eq_true_eq, D.int.injEq]
    omega
  · rename_i i j
    simp only [D.ltb, D.str.injEq]
    exact ltL_tri i j
theorem key_eqb {a b : D} (ha : a.isKey = true) (h : D.alike a b = true) : D.eqb a b = true ↔ a = b := by
  cases a <;> simp [D.isKey] at ha <;> cases b <;> simp [D.alike] at h <;> simp [D.eqb]
def Kall (ds : List D) : Prop := (∀ a ∈ ds, a.isKey = true) ∧ ∀ a ∈ ds, ∀ b ∈ ds, D.alike a b = true
theorem Kall.tail {a : D} {ds : List D} (h : Kall (a :: ds)) : Kall ds := ⟨fun x hx => h.1 x (List.mem_cons_of_mem _ hx), fun x hx y hy => h.2 x (List.mem_cons_of_mem _ hx) y (List.mem_cons_of_mem _ hy)⟩
theorem Kall.sub {ds es : List D} (h : Kall ds) (s : ∀ x ∈ es, x ∈ ds) : Kall es := ⟨fun x hx => h.1 x (s x hx), fun x hx y hy => h.2 x (s x hx) y (s y hy)⟩
theorem insD_mem {x y : D} : ∀ {l : List D}, y ∈ insD x l ↔ y = x ∨ y ∈ l
  | [] => by simp [insD]
  | z :: l => by
    unfold insD
    split
    · rw [List.mem_cons, insD_mem, List.mem_cons]
      constructor
      · rintro (h | h | h) <;> simp [h]
      · rintro (h | h | h) <;> simp [h]
    · rw [List.mem_cons]
def LeD (a b : D) : Prop := D.ltb b a = false
theorem LeD.lt {a b c : D} (ha : a.isKey = true) (hb : b.isKey = true) (hc : c.isKey = true) (hab : D.alike a b = true) (h : D.ltb a b = true) (g : LeD b c) : LeD a c := by
  unfold LeD at *
  cases e : D.ltb c a with
  | false => rfl
  | true =>
    have := key_trans hc ha e h
    rw [g] at this; cases this
theorem insD_sorted {x : D} : ∀ {l : List D}, Kall (x :: l) → l.Pairwise LeD → (insD x l).Pairwise LeD
  | [], _, _ => by simp [insD]
  | y :: l, k, p => by
    obtain ⟨p1, p2⟩ := List.pairwise_cons.mp p
    unfold insD
    have hx := k.1 x List.mem_cons_self
    have hy := k.1 y (by simp)
    split
    · rename_i h
      refine List.pairwise_cons.mpr ⟨fun z hz => ?_, insD_sorted ⟨fun a ha => k.1 a ?_, fun a ha b hb => k.2 a ?_ b ?_⟩ p2⟩
      · rcases insD_mem.mp hz with rfl | hz
        · unfold LeD
          cases e : D.ltb z y with
          | false => rfl
          | true =>
            have := key_trans hx hy e h
            rw [key_irr hx] at this; cases this
        · exact p1 z hz
      · rcases List.mem_cons.mp ha with rfl | h <;> simp [*]
      · rcases List.mem_cons.mp ha with rfl | h <;> simp [*]
      · rcases List.mem_cons.mp hb with rfl | h <;> simp [*]
    · rename_i h
      have h : D.ltb y x = false := by simpa using h
      refine List.pairwise_cons.mpr ⟨fun z hz => ?_, p⟩
      rcases List.mem_cons.mp hz with rfl | hzl
      · exact h
      · unfold LeD
        cases e : D.ltb z x with
        | false => rfl
        | true =>
          have hz' := k.1 z (by simp [hzl])
          rcases key_tri hx (k.2 x (by simp) y (by simp)) with q | q | q
          · have := key_trans hz' hx e q
            have q2 := p1 z hzl
            unfold LeD at q2
            rw [q2] at this; cases this
          · subst q
            have q2 := p1 z hzl
            unfold LeD at q2
            rw [q2] at e; cases e
          · rw [h] at q; cases q
theorem sortD_sorted : ∀ {l : List D}, Kall l → (sortD l).Pairwise LeD
  | [], _ => List.Pairwise.nil
  | x :: l, k => by
    show (insD x (sortD l)).Pairwise LeD
    refine insD_sorted (k.sub fun y hy => ?_) (sortD_sorted k.tail)
    rcases List.mem_cons.mp hy with rfl | hy
    · simp
    · exact List.mem_cons_of_mem _ (sortD_mem.mp hy)
def LtD (a b : D) : Prop := D.ltb a b = true
theorem uniqD_mem : ∀ {l : List D} {x : D}, Kall l → (x ∈ uniqD l ↔ x ∈ l)
  | [], _, _ => Iff.rfl
  | y :: l, x, k => by
    have ih := uniqD_mem (l := l) (x := x) k.tail
    unfold uniqD
    cases e : uniqD l with
    | nil =>
      rw [e] at ih
      simp only [List.mem_cons, ← ih]
    | cons z t =>
      rw [e] at ih
      simp only
      have hz : z ∈ l := by
        have := uniqD_mem (l := l) (x := z) k.tail
        rw [e] at this
        exact this.mp List.mem_cons_self
      split
      · rename_i h
        have := (key_eqb (k.1 y (by simp)) (k.2 y (by simp) z (by simp [hz]))).mp h
        subst this
        refine ⟨fun h => List.mem_cons_of_mem _ (ih.mp h), fun h => ?_⟩
        rcases List.mem_cons.mp h with rfl | h
        · exact List.mem_cons_self
        · exact ih.mpr h
      · rw [List.mem_cons, ih, List.mem_cons]
theorem uniqD_sorted : ∀ {l : List D}, Kall l → l.Pairwise LeD → (uniqD l).Pairwise LtD
  | [], _, _ => List.Pairwise.nil
  | y :: l, k, p => by
    obtain ⟨p1, p2⟩ := List.pairwise_cons.mp p
    have ih := uniqD_sorted k.tail p2
    unfold uniqD
    cases e : uniqD l with
    | nil => exact List.pairwise_singleton _ _
    | cons z t =>
      rw [e] at ih
      simp only
      have hz : z ∈ l := by
        have := uniqD_mem (l := l) (x := z) k.tail
        rw [e] at this
        exact this.mp List.mem_cons_self
      have hy := k.1 y (by simp)
      have hzk := k.1 z (by simp [hz])
      split
      · exact ih
      · rename_i h
        have ne : y ≠ z := fun q => h ((key_eqb hy (k.2 y (by simp) z (by simp [hz]))).mpr q)
        have yz : LtD y z := by
          rcases key_tri hy (k.2 y (by simp) z (by simp [hz])) with q | q | q
          · exact q
          · exact (ne q).elim
          · have := p1 z hz
            unfold LeD at this
            rw [this] at q; cases q
        refine List.pairwise_cons.mpr ⟨fun x hx => ?_, ih⟩
        rcases List.mem_cons.mp hx with rfl | hx
        · exact yz
        · exact key_trans hy hzk yz ((List.pairwise_cons.mp ih).1 x hx)
theorem strict_eq : ∀ {l m : List D}, (∀ x ∈ l, x.isKey = true) → l.Pairwise LtD → m.Pairwise LtD → (∀ x, x ∈ l ↔ x ∈ m) → l = m
  | [], [], _, _, _, _ => rfl
  | [], y :: m, _, _, _, h => by have := (h y).mpr List.mem_cons_self; cases this
  | x :: l, [], _, _, _, h => by have := (h x).mp List.mem_cons_self; cases this
  | x :: l, y :: m, k, p, q, h => by
    obtain ⟨p1, p2⟩ := List.pairwise_cons.mp p
    obtain ⟨q1, q2⟩ := List.pairwise_cons.mp q
    have hx := k x List.mem_cons_self
    have irr : ∀ {a : D}, a.isKey = true → ¬ LtD a a := fun {a} h z => by
      unfold LtD at z
      rw [key_irr h] at z; cases z
    have e : x = y := by
      rcases List.mem_cons.mp ((h x).mp List.mem_cons_self) with e | hx2
      · exact e
      · rcases List.mem_cons.mp ((h y).mpr List.mem_cons_self) with e | hy2
        · exact e.symm
        · have hy := k y (List.mem_cons_of_mem _ hy2)
          exact (irr hx (key_trans hx hy (p1 y hy2) (q1 x hx2))).elim
    subst e
    rw [strict_eq (fun a ha => k a (List.mem_cons_of_mem _ ha)) p2 q2 fun a => ?_]
    constructor
    · intro ha
      rcases List.mem_cons.mp ((h a).mp (List.mem_cons_of_mem _ ha)) with e | z
      · exact (irr hx (e ▸ p1 a ha)).elim
      · exact z
    · intro ha
      rcases List.mem_cons.mp ((h a).mpr (List.mem_cons_of_mem _ ha)) with e | z
      · exact (irr hx (e ▸ q1 a ha)).elim
      · exact z
theorem lt_of_nodup : ∀ {l : List D}, Kall l → l.Pairwise LeD → l.Nodup → l.Pairwise LtD
  | [], _, _, _ => List.Pairwise.nil
  | y :: l, k, p, d => by
    obtain ⟨p1, p2⟩ := List.pairwise_cons.mp p
    obtain ⟨d1, d2⟩ := List.nodup_cons.mp d
    refine List.pairwise_cons.mpr ⟨fun x hx => ?_, lt_of_nodup k.tail p2 d2⟩
    rcases key_tri (k.1 y (by simp)) (k.2 y (by simp) x (by simp [hx])) with q | q | q
    · exact q
    · exact (d1 (q ▸ hx)).elim
    · have := p1 x hx
      unfold LeD at this
      rw [this] at q; cases q
theorem insD_nodup {x : D} : ∀ {l : List D}, x ∉ l → l.Nodup → (insD x l).Nodup
  | [], _, _ => by simp [insD]
  | y :: l, h, d => by
    obtain ⟨d1, d2⟩ := List.nodup_cons.mp d
    unfold insD
    split
    · refine List.nodup_cons.mpr ⟨fun z => ?_, insD_nodup (fun q => h (List.mem_cons_of_mem _ q)) d2⟩
      rcases insD_mem.mp z with e | z
      · exact h (by simp [e])
      · exact d1 z
    · exact List.nodup_cons.mpr ⟨h, d⟩
theorem sortD_nodup : ∀ {l : List D}, l.Nodup → (sortD l).Nodup
  | [], _ => List.nodup_nil
  | x :: l, d => by
    obtain ⟨d1, d2⟩ := List.nodup_cons.mp d
    exact insD_nodup (fun q => d1 (sortD_mem.mp q)) (sortD_nodup d2)
/-- a set's members, sorted -/
theorem sort_set {L acc : List D} (k : Kall acc) (d : L.Nodup) (h : ∀ x, x ∈ L ↔ x ∈ acc) : sortD L = uniqD (sortD acc) := by
  have kL : Kall L := k.sub fun x hx => (h x).mp hx
  have ks : Kall (sortD acc) := k.sub fun x hx => sortD_mem.mp hx
  have kl : Kall (sortD L) := kL.sub fun x hx => sortD_mem.mp hx
  refine strict_eq kl.1 (lt_of_nodup kl (sortD_sorted kL) (sortD_nodup d)) (uniqD_sorted ks (sortD_sorted k)) fun x => ?_
  rw [sortD_mem, uniqD_mem ks, sortD_mem, h]
end Gw

set_option Elab.async false
set_option linter.all false
set_option maxRecDepth 100000
set_option maxHeartbeats 2000000
/-! The value layer: sorted(set comprehension) of ints or texts. -/
namespace Gw
open PySem PySem.Spec PyProof.Rows L2
def kD : D → Option Key
  | .int i => some (.inl i)
  | .str l => some (.inr (mkS l))
  | _ => none
def dK : Key → D
  | .inl i => .int i
  | .inr s => .str s.cps.toList
theorem dK_kD {d : D} {k : Key} (h : kD d = some k) : dK k = d := by
  cases d <;> simp [kD] at h <;> subst h <;> rfl
theorem kD_dK (k : Key) : kD (dK k) = some k := by cases k <;> rfl
theorem dK_inj {a b : Key} (h : dK a = dK b) : a = b := by
  have := congrArg kD h
  rw [kD_dK, kD_dK] at this
  exact Option.some.inj this
theorem kD_key {d : D} (h : d.isKey = true) : ∃ k, kD d = some k := by cases d <;> simp [D.isKey] at h <;> exact ⟨_, rfl⟩
theorem dK_key (k : Key) : (dK k).isKey = true := by cases k <;> rfl
theorem kV_rp {K : PySem.W.Frag} {M : Addr → Prop} {H : Hp} (k : Key) : Rp K M H (kV k) (dK k) := by
  cases k with
  | inl i => exact .int i
  | inr s => exact .str s.cps.toList
theorem sortable_sub {ds es : List D} (h : sortable ds = true) (s : ∀ x ∈ es, x ∈ ds) : sortable es = true := by
  obtain ⟨h1, h2, h3, h4⟩ := sortable_iff h
  have n1 : ∀ es : List D, (∀ x ∈ es, x ∈ ds) → D.nodcts es = true := by
    intro es
    induction es with
    | nil => intro _; rfl
    | cons e es ih =>
      intro s
      simp only [D.nodcts, Bool.and_eq_true]
      exact ⟨nodct_mem h1 e (s e List.mem_cons_self), ih fun x hx => s x (List.mem_cons_of_mem _ hx)⟩
  have n2 : ∀ es : List D, (∀ x ∈ es, x ∈ ds) → D.depths es ≤ 60 := by
    intro es
    induction es with
    | nil => intro _; exact Nat.zero_le _
    | cons e es ih =>
      intro s
      simp only [D.depths]
      have a := depth_mem h2 e (s e List.mem_cons_self)
      have b := ih fun x hx => s x (List.mem_cons_of_mem _ hx)
      omega
  unfold sortable
  simp only [Bool.and_eq_true, Bool.or_eq_true, decide_eq_true_eq, List.all_eq_true]
  exact ⟨⟨⟨n1 es s, n2 es s⟩, fun a ha b hb => h3 a (s a ha) b (s b hb)⟩, h4.imp (fun h a ha => h a (s a ha)) fun h a ha => h a (s a ha)⟩
section
variable {P : Program} {w : World} {A : Around} {E : Value → Shared → Prop} {s : Shared} {a : Addr} {S : Key → Bool} {n : Nat}
theorem sorted_setM {Q : Value → Shared → Prop} (R : SetM w s.heap a S n) (hh : A.handled = none) (hu : A.units + 65 < cLine) (hs : ∀ L : List Key, (∀ k ∈ L, S k = true) → sortable (L.map dK) = true)
    (hQ : ∀ s' p (out : List Value) (c : Nat) (L : List Key), (∀ b o, s.heap.get? b = some o → s'.heap.get? b = some o) → s'.gens = s.gens → s'.os = s.os → s.heap.objs.size ≤ p →
      s'.heap.get? p = some (seqObj "list" out.toArray c) → L.Nodup → (∀ k, k ∈ L ↔ S k = true) → L.length = n → PySem.W.EachIs (fun u d => ∃ k, dK k = d ∧ RelV (kV k) u) out (sortD (L.map dK)) → Q (.ref p) s') :
    wpAny (model P w) A (call (.builtin "sorted") [.ref a]) Q E s := by
  obtain ⟨o, es, ep, t, ho, hex, hd, g, nd, hm, hb, hf, hn, hr, hl⟩ := R
  refine Calls.call_function_entry kind_sorted plain_sorted entry_sorted (args_sorted1 _) ?_
  unfold Builtin.«sorted»
  refine wpAny_bind (m := checkCount "sorted" 1 1 _) (wpAny_pure ?_)
  refine wpAny_bind (collect_set (A := A.in1) hh ⟨o, ho, hex.1, hd⟩ hf hb hr hl fun s1 vs k1 hz g1 o1 pm => ?_)
  have hvl : vs.length = n := by rw [pm.length_eq, List.length_map, Array.length_toList]; exact hn
  have pk : (vs.map mkey).Perm (keysM es.toList) := by
    have q := pm.map mkey
    rw [List.map_map] at q
    exact q
  have hrel : ∀ v ∈ vs, RelV (kV (mkey v)) v := fun v hv => by
    obtain ⟨e, he, q⟩ := List.mem_map.mp (pm.mem_iff.mp hv)
    obtain ⟨k, h1, _⟩ := g e he
    rw [q] at h1
    rw [mkey_of h1]
    exact h1
  have e1 : ∀ (l : List Value), (∀ v ∈ l, RelV (kV (mkey v)) v) → PySem.W.EachIs (fun u d => ∃ k, dK k = d ∧ RelV (kV k) u) l ((l.map mkey).map dK) := by
    intro l
    induction l with
    | nil => intro _; exact .nil
    | cons v l ih => intro h; exact .cons ⟨mkey v, rfl, h v List.mem_cons_self⟩ (ih fun u hu => h u (List.mem_cons_of_mem _ hu))
  have E1 := e1 vs hrel
  have hS : ∀ k ∈ vs.map mkey, S k = true := fun k hk => (hm k).2 (pk.mem_iff.mp hk)
  have hso := hs (vs.map mkey) hS
  obtain ⟨k5, k6⟩ := sortable_toP hso
  obtain ⟨_, _, k3, _⟩ := sortable_iff hso
  refine wpAny_bind (wpAny_newList ?_ (by
    rw [hvl, ← hn, sizeLine_eq]
    have : es.size < scanBound := hb
    unfold scanBound at this
    omega))
  have hoL : (s1.heap.push (seqObj "list" vs.toArray 0)).get? s1.heap.objs.size = some (seqObj "list" vs.toArray 0) := Heap.get?_push_size _ rfl
  have E2 : PySem.W.EachIs (fun v b => ∃ as, Reads (s1.heap.push (seqObj "list" vs.toArray 0)) v (toP b) as ∧ s1.heap.objs.size ∉ as) vs ((vs.map mkey).map dK) := E1.mono fun u d ⟨k, e, r⟩ => by
    subst e
    cases k with
    | inl i => obtain ⟨t, rfl⟩ := (show ∃ t, u = Value.int i t from r); exact ⟨[], by first | exact .int _ _ | constructor, by simp⟩
    | inr x => obtain ⟨t, rfl⟩ := (show ∃ t, u = Value.str x t from r); exact ⟨[], by first | exact .str _ _ | constructor, by simp⟩
  have hlb : ((vs.map mkey).map dK).length ≤ sizeLine := by
    rw [List.length_map, List.length_map, hvl, ← hn, sizeLine_eq]
    have : es.size < scanBound := hb
    unfold scanBound at this
    omega
  refine wpAny_bind (wpAny_holding (PySem.W.list_sort_data (R := fun u d => ∃ k, dK k = d ∧ RelV (kV k) u) (enc := toP) hoL E1 E2 k5 k6 hlb (fun b hb => ?_) fun out hol he => ?_))
  · obtain ⟨k, _, rfl⟩ := List.mem_map.mp hb
    have : (toP (dK k)).depth = 0 := by cases k <;> rfl
    rw [this]
    have : A.in1.units = A.units + 1 := rfl
    omega
  · rw [← sortD_merge k3] at he
    obtain ⟨c, hc⟩ := sortedHeap_at (vs := vs) (out := out.toArray) hoL
    refine wpAny_pure ⟨_, rfl, hQ _ s1.heap.objs.size out c (vs.map mkey) (fun b u e => ?_) g1 o1 hz hc (pk.nodup_iff.mpr nd) (fun k => by rw [pk.mem_iff, ← hm k]) (by rw [List.length_map]; exact hvl) he⟩
    have q := k1 b u e
    have hlt := Heap.lt_size q
    show (sortedHeap (s1.heap.push (seqObj "list" vs.toArray 0)) s1.heap.objs.size vs out.toArray).get? b = some u
    rw [sortedHeap_old (Nat.ne_of_lt hlt) (by rw [size_push']; exact Nat.lt_succ_of_lt hlt)]
    exact Heap.get?_push_of_some _ q
end
section
variable {X : Cx}
theorem each_kv : ∀ {ds : List D} {out : List Value}, PySem.W.EachIs (fun u d => ∃ k, dK k = d ∧ RelV (kV k) u) out ds → ∃ ks : List Key, ks.map dK = ds ∧ Vals (ks.map kV) out
  | _, _, .nil => ⟨[], rfl, .nil⟩
  | _, _, .cons ⟨k, e, r⟩ t => by
    obtain ⟨ks, h1, h2⟩ := each_kv t
    exact ⟨k :: ks, by rw [List.map_cons, e, h1], .cons r h2⟩
/-- sorted(the set at a) -/
def rSortedM (w : World) : List V → Hp → VK → Prop := fun vs H Q => ∃ (a : Addr) (S : Key → Bool) (n : Nat), vs = [V.ref a] ∧ H a = some (SetMO w a S n) ∧ (∀ L : List Key, (∀ k ∈ L, S k = true) → sortable (L.map dK) = true) ∧
  ∀ (L ks : List Key) (p : Addr), L.Nodup → (∀ k, k ∈ L ↔ S k = true) → ks.map dK = sortD (L.map dK) → H p = none → Q (.ref p) (upd H p (.lst (ks.map kV)))
theorem cr_sortedM (hu : X.A.units + 65 < cLine) (hc : X.calm = true) : CallR X (.builtin "sorted") (rSortedM X.w) := by
  intro pins s σ H vs us Q I r h
  obtain ⟨a, S, n, rfl, ha, hs, q⟩ := h
  have R := setMO_get I ha
  rw [Vals.ref1 r]
  have hb : n < scanBound := by
    obtain ⟨o, es, ep, t, ho, hex, hd, g, nd, hm, hb, hf, hn, hr, hl⟩ := R
    rw [← hn]; exact hb
  refine sorted_setM R (I.ok.hd hc) hu hs fun s' p out c L k g o hp hg hL hm hn he => ?_
  obtain ⟨ks, e1, e2⟩ := each_kv he
  have hlen : (ks.map kV).length ≤ sizeLine := by
    have e3 := congrArg List.length e1
    rw [sortD_merge (sortable_iff (hs L fun k hk => (hm k).mp hk)).2.2.1, List.length_mergeSort, List.length_map, List.length_map] at e3
    rw [List.length_map, e3, hn, sizeLine_eq]
    unfold scanBound at hb
    omega
  have hnp : H p = none := I.hok.fresh hp
  have J : L2.Inv X pins σ (upd H p (.lst (ks.map kV))) { s with heap := s'.heap, gens := s'.gens, drawn := s'.drawn, toks := s'.toks } :=
    I.call (ch := []) (Un.laid k hp hnp) (I.hok.laid k hp ⟨hlen, out, c, e2, hg⟩) (by rw [g]; exact I.bare) (fun _ z => nomatch z)
  have e : s' = { s with heap := s'.heap, gens := s'.gens, drawn := s'.drawn, toks := s'.toks } := by
    cases s'
    cases s
    cases o
    rfl
  rw [e]
  exact ⟨.ref p, _, J, rfl, q L ks p hL hm e1 hnp⟩
/-! ### the comprehension -/
def tScM (w : World) (wi : TI) (g : TG) (tt : TT) (te : TE) (vs : List Nat) : TE := fun σ H Q => wi σ H fun J H1 => ∀ D, H1 D = none → ∃ W : Nat → Nat → Hp → Prop, (∃ m, W 0 m (upd H1 D (SetMO w D (fun _ => false) 0))) ∧ ∀ i m H, W i m H →
  (J.stop i H ∧ Q (.ref D) H) ∨ (J.go i H ∧ ∃ Nx : Hp → Prop, (∀ H', Nx H' → ∃ m', m' < m ∧ W (i + 1) m' H') ∧ ∀ x H', J.yld i H x H' → g x (L2.wipe σ vs) H' fun σ2 H2 => L2.wipe σ2 vs = L2.wipe σ vs ∧ tt σ2 H2 fun b H3 =>
    if b = true then te σ2 H3 fun y H4 => ∃ (c : Key) (S : Key → Bool) (n : Nat), y = kV c ∧ H4 D = some (SetMO w D S n) ∧ n + 1 < scanBound ∧ Nx (upd H4 D (SetMO w D (fun j => S j || decide (j = c)) (if S c = true then n else n + 1))) else Nx H3)
theorem pe_scM {elt tg iter : Expr} {ifs : List Expr} {scope : Scope} {own : List (PySem.Str × Nat)} {pos : Pos} {wi : TI} {g : TG} {tt : TT} {te : TE} (hc : X.calm = true) (hN : X.N.Nodup) (hi : PI X tg iter wi) (ok : BlkOk X.N X.env.scope scope own)
    (hg : ∀ (s : Shared) (H : Hp) (C : Addr) (cl : List (PySem.Str × Addr)) (fp : List Addr), PG (X.blk s H scope (compEnvC scope cl C X.env) fp) tg g) (ht : ∀ (s : Shared) (H : Hp) (C : Addr) (cl : List (PySem.Str × Addr)) (fp : List Addr), PTs (X.blk s H scope (compEnvC scope cl C X.env) fp) ifs tt)
    (he : ∀ (s : Shared) (H : Hp) (C : Addr) (cl : List (PySem.Str × Addr)) (fp : List Addr), PE (X.blk s H scope (compEnvC scope cl C X.env) fp) elt te) (hs : ∀ x, foldedSetIterable iter X.env x = pure x) :
    PE X (.SetComp elt [⟨tg, iter, ifs, 0⟩] scope pos) (tScM X.w wi g tt te (own.map (·.2))) := by
  refine ⟨fun pins s σ H Q I h => ?_⟩
  rw [PpSet.eval_SetComp]
  have hfree : ∀ y ∈ scope.names, y.2 = .free → ∃ c, X.env.cells.lookup y.1 = some c := fun y hy e => by
    rcases ok.free y hy e with k | k
    · exact I.ok.has _ (.inl k)
    · exact I.ok.has _ (.inr k)
  refine wpAny_comprehension_free (use := none) rfl hs (closure_ok hfree) ok.kind (fun y hy e => by rw [ok.uniq y hy, e])
    (thn (hi.run pins s σ H _ I h) fun xv s1 hx => thn hx fun itv s2 h2 => ?_)
  obtain ⟨it, fp, tn, J, H2, e, I2, T, st2, f2, q⟩ := h2
  subst e
  refine PpSet.newSet_ok (newEnv_comp ?_)
  generalize hD : s2.heap.objs.size = D
  have hDn : H2 D = none := I2.hok.fresh (Nat.le_of_eq hD)
  obtain ⟨W, ⟨m0, w0⟩, turn⟩ := q D hDn
  generalize hs3 : ({ s2 with heap := s2.heap.push { cls := .type "set", dict := none, data := .set #[] 0 (.fresh 0 0 (!X.w.params.followText "set-order")) } } : Shared) = s3
  have I3 : L2.Inv X pins σ (upd H2 D (SetMO X.w D (fun _ => false) 0)) s3 := by
    rw [← hs3]
    refine I2.laid (t' := s2.toks) (fun b o e => Heap.get?_push_of_some _ e) (Nat.le_of_eq hD) ?_
    rw [← hD]
    exact setMO_new (setM_fresh X.w)
  have h3 : s3.heap = s2.heap.push { cls := .type "set", dict := none, data := .set #[] 0 (.fresh 0 0 (!X.w.params.followText "set-order")) } := by rw [← hs3]
  have sz : ∀ b ∈ fp, b < s2.heap.objs.size := fun b hb => by
    obtain ⟨o, e, _⟩ := T.obj _ _ st2 b hb
    exact Heap.lt_size e
  have f3 : ∀ b ∈ fp, FpOk X pins (upd H2 D (SetMO X.w D (fun _ => false) 0)) b ∧ b < s3.heap.objs.size := fun b hb => by
    have hlt := sz b hb
    refine ⟨⟨?_, (f2 b hb).2⟩, by rw [h3, Heap.size_push]; exact Nat.lt_succ_of_lt hlt⟩
    rw [upd_ne (by rw [← hD]; exact Nat.ne_of_lt hlt)]
    exact (f2 b hb).1
  have st3 : tn 0 s3.heap := T.keep _ _ _ st2 fun b _ o e => by rw [h3]; exact Heap.get?_push_of_some _ e
  have I4 := block_start I3 ok hN f3
  have pg := hg s3 (upd H2 D (SetMO X.w D (fun _ => false) 0)) s3.heap.objs.size (cellsFrom (s3.heap.objs.size + 1) scope.names (cloFrom X.env.cells scope.names [])) fp
  have pt := ht s3 (upd H2 D (SetMO X.w D (fun _ => false) 0)) s3.heap.objs.size (cellsFrom (s3.heap.objs.size + 1) scope.names (cloFrom X.env.cells scope.names [])) fp
  have pe := he s3 (upd H2 D (SetMO X.w D (fun _ => false) 0)) s3.heap.objs.size (cellsFrom (s3.heap.objs.size + 1) scope.names (cloFrom X.env.cells scope.names [])) fp
  show codeAny _ _ (.compStart (.SetComp elt [⟨tg, iter, ifs, 0⟩] scope pos) 0 (.ref it) (.ref D) (compEnvC scope (cellsFrom (s3.heap.objs.size + 1) scope.names (cloFrom X.env.cells scope.names [])) s3.heap.objs.size X.env)) (compPost (model X.prog X.w) X.A X.xe none _ (.ref D) s3.heap.objs.size) { s3 with heap := pushCells (s3.heap.push { cls := .type "dict", data := .dict #[] }) scope.names }
  have nfp : ∀ b ∈ fp, (upd H2 D (SetMO X.w D (fun _ => false) 0)) b = none := fun b hb => (f3 b hb).1.1
  generalize hce : compEnvC scope (cellsFrom (s3.heap.objs.size + 1) scope.names (cloFrom X.env.cells scope.names [])) s3.heap.objs.size X.env = ce at I4 pg pt pe ⊢
  have cL : ce.locals = s3.heap.objs.size := by subst hce; rfl
  generalize hH3 : upd H2 D (SetMO X.w D (fun _ => false) 0) = H3 at I3 I4 pg pt pe w0 nfp f3
  generalize hs4 : ({ s3 with heap := pushCells (s3.heap.push { cls := .type "dict", data := .dict #[] }) scope.names } : Shared) = s4 at I4 ⊢
  have st4 : tn 0 s4.heap := T.keep _ _ _ st3 fun b _ o e => by rw [← hs4]; exact pushCells_keeps _ _ _ _ (Heap.get?_push_of_some _ e)
  have stat : ∀ {σ' : L2.St} {H' : Hp} {s' : Shared}, L2.Inv (X.blk s3 H3 scope ce fp) [] σ' H' s' → (∀ b ∈ fp, H' b = none) → ∀ b ∈ fp, FpOk (X.blk s3 H3 scope ce fp) [] H' b := fun {σ' H' s'} I' hn b hb =>
    ⟨hn b hb, (I'.ok.exf b hb).1, I'.ok.exfs b hb, .inl hb, fun x c e => (I'.ok.exf b hb).2 x c e, fun p hp => absurd (show p ∈ ([] : List (Addr × Obj)) ++ [] from hp) (by simp)⟩
  have loop : codeAny (model X.prog X.w) X.A (.compLoop (.SetComp elt [⟨tg, iter, ifs, 0⟩] scope pos) 0 (.ref it) (.ref D) ce) (compPost (model X.prog X.w) X.A X.xe none (fun v s' => ∃ vv H', L2.Inv X pins σ H' s' ∧ RelV vv v ∧ Q vv H') (.ref D) s3.heap.objs.size) s4 := by
    refine PpSet.compLoopS_any (fun n s' => ∃ i H', L2.Inv (X.blk s3 H3 scope ce fp) [] (L2.wipe σ (own.map (·.2))) H' s' ∧ tn i s'.heap ∧ (∀ b ∈ fp, H' b = none) ∧ W i n H') ?_ m0 ⟨0, H3, I4, st4, nfp, w0⟩
    rintro n s5 ⟨i, H5, I5, st5, n5, w5⟩
    rcases turn i n H5 w5 with ⟨stop, qq⟩ | ⟨go, Nx, hNx, step⟩
    · have td := T.done (X.blk s3 H3 scope ce fp) rfl rfl rfl hc i [] s5 _ H5 (fun _ _ => False) I5 (stat I5 n5) st5 stop
      refine thnF td fun r s6 ⟨hr, I6⟩ => ?_
      subst hr
      have I7 : L2.Inv X pins σ H5 s6 := I3.call' (ch := fp) I6.os I6.base I6.hok I6.bare fun b hb => ⟨(f3 b hb).1.2.2.2.1, (f3 b hb).1.2.1, (f3 b hb).1.2.2.2.2.1, (f3 b hb).1.2.2.2.2.2⟩
      have nC : H5 s3.heap.objs.size = none := by
        have z : H5 ce.locals = none := I6.free
        rw [cL] at z
        exact z
      obtain ⟨m, hn, _⟩ := I6.loc
      have hn : s6.heap.Ns ce.locals m := hn
      rw [cL] at hn
      refine ⟨m, hn, fun h'' sb => ?_⟩
      obtain ⟨f0, f1, f2, f3, f4, f5⟩ := I3.fpOk (Nat.le_refl _) nC
      exact ⟨.ref D, H5, I7.turned (t' := s6.toks) (fun b o hb e => (sb.2 b hb).trans e) f0 f1 f3 f4 f5, rfl, qq⟩
    · have ti := T.item (X.blk s3 H3 scope ce fp) rfl rfl rfl hc i [] s5 _ H5 (fun _ _ => False) I5 (stat I5 n5) st5 go
      refine thnF ti fun r s6 ⟨u, hr, h6⟩ => ?_
      subst hr
      refine thnF h6 fun _ s7 ⟨x, H7, I7, r7, y7, st7, n7⟩ => ?_
      have I7' := I7.pinned (stat I7 n7) (T.obj _ _ st7)
      refine thnF (pg.run _ s7 _ H7 x u _ I7' r7 (step x H7 y7)) fun _ s8 ⟨σ8, H8, I8, hw8, q8⟩ => ?_
      refine thnF (pt.run _ s8 σ8 H8 _ I8 q8) fun b s9 ⟨H9, I9, q9⟩ => ?_
      have fin : ∀ {s' : Shared} {H' : Hp}, L2.Inv (X.blk s3 H3 scope ce fp) ([] ++ pinsAt fp s7.heap) σ8 H' s' → Nx H' → ∃ m, m < n ∧ ∃ i H', L2.Inv (X.blk s3 H3 scope ce fp) [] (L2.wipe σ (own.map (·.2))) H' s' ∧ tn i s'.heap ∧ (∀ b ∈ fp, H' b = none) ∧ W i m H' := fun {s' H'} I' nx => by
        obtain ⟨m', hm, w'⟩ := hNx H' nx
        have pin' : ∀ b ∈ fp, ∀ o, s7.heap.get? b = some o → s'.heap.get? b = some o ∧ H' b = none := fun b hb o e =>
          let z := I'.pin (b, o) (List.mem_append_right _ (List.mem_append_right _ (mem_pinsAt hb e)))
          ⟨z.1, z.2.1⟩
        have hl : (L2.wipe σ (own.map (·.2))).length = σ8.length := by rw [← hw8, L2.wipe_length]
        refine ⟨m', hm, i + 1, H', (I'.unpinned (pins := [])).weak hl (fun j v e => ?_), T.keep _ _ _ st7 fun b hb o e => (pin' b hb o e).1, fun b hb => ?_, w'⟩
        · rw [← hw8] at e
          exact (wipe_some e).1
        · obtain ⟨o, e, _⟩ := T.obj _ _ st7 b hb
          exact (pin' b hb o e).2
      cases b with
      | false =>
        simp only [Bool.false_eq_true, if_false] at q9 ⊢
        exact fin I9 q9
      | true =>
        simp only [if_true] at q9 ⊢
        refine thnF (pe.run _ s9 σ8 H9 _ I9 q9) fun z s10 ⟨yv, H10, I10, r10, cb, S0, n0, ey, hD10, hz10, nx⟩ => ?_
        subst ey
        exact addM_ok (X := X.blk s3 H3 scope ce fp) I10 r10 hD10 hz10 fun s11 I11 => fin I11 nx
  exact PpSet.codeAny_compStart_set loop (T.self X.A 0 _ _ _ st4 loop)
end
end Gw

set_option Elab.async false
set_option linter.all false
set_option maxRecDepth 100000
set_option maxHeartbeats 2000000
/-! The value layer: sorted(set comprehension), the reading. -/
namespace Gw
open PySem L2
/-- the readings where the foreign objects may change from turn to turn -/
def gDx (K : PySem.W.Frag) (tabs : List Addr) (t : T) : TG := fun v σ H Q => ∃ B : Bs, B.tabs = tabs ∧ gD K B t v σ H Q
def tCx (K : PySem.W.Frag) (tabs : List Addr) (G : Glo) (c : E) : TT := fun σ H Q => ∃ B : Bs, B.tabs = tabs ∧ tCnd K B G c σ H Q
def tEx (K : PySem.W.Frag) (tabs : List Addr) (F : Env → Res (Rv × Env)) : TE := fun σ H Q => ∃ B : Bs, B.tabs = tabs ∧ tE K B F σ H Q
theorem PG.ex {X : Cx} {tg : Expr} {tabs : List Addr} {t : T} (h : ∀ B : Bs, B.tabs = tabs → PG X tg (gD X.K B t)) : PG X tg (gDx X.K tabs t) :=
  ⟨fun pins s σ H v u Q I r ⟨B, hB, q⟩ => (h B hB).run pins s σ H v u Q I r q⟩
theorem PTs.ex {X : Cx} {ifs : List Expr} {tabs : List Addr} {G : Glo} {c : E} (h : ∀ B : Bs, B.tabs = tabs → PTs X ifs (tCnd X.K B G c)) : PTs X ifs (tCx X.K tabs G c) :=
  ⟨fun pins s σ H Q I ⟨B, hB, q⟩ => (h B hB).run pins s σ H Q I q⟩
theorem PE.ex {X : Cx} {x : Expr} {tabs : List Addr} {F : Env → Res (Rv × Env)} (h : ∀ B : Bs, B.tabs = tabs → PE X x (tE X.K B F)) : PE X x (tEx X.K tabs F) :=
  ⟨fun pins s σ H Q I ⟨B, hB, q⟩ => (h B hB).run pins s σ H Q I q⟩
/-- the set of what has been made so far -/
def setSN (acc : List D) : (Key → Bool) × Nat := acc.foldl (fun p d => match kD d with
  | some k => (fun j => p.1 j || decide (j = k), if p.1 k = true then p.2 else p.2 + 1)
  | none => p) (fun _ => false, 0)
theorem setSN_snoc {acc : List D} {d : D} {k : Key} (h : kD d = some k) : setSN (acc ++ [d]) = (fun j => (setSN acc).1 j || decide (j = k), if (setSN acc).1 k = true then (setSN acc).2 else (setSN acc).2 + 1) := by
  unfold setSN
  rw [List.foldl_append, List.foldl_cons, List.foldl_nil, h]
theorem snoc_ind {P : List D → Prop} (h0 : P []) (h1 : ∀ l d, P l → P (l ++ [d])) (l : List D) : P l := by
  have q : ∀ l : List D, P l.reverse := fun l => by
    induction l with
    | nil => exact h0
    | cons d l ih => rw [List.reverse_cons]; exact h1 _ _ ih
  have := q l.reverse
  rwa [List.reverse_reverse] at this
theorem setSN_len (acc : List D) : (setSN acc).2 ≤ acc.length := by
  refine snoc_ind (P := fun acc => (setSN acc).2 ≤ acc.length) (Nat.le_refl _) (fun l d ih => ?_) acc
  cases h : kD d with
  | none =>
    have : setSN (l ++ [d]) = setSN l := by unfold setSN; rw [List.foldl_append, List.foldl_cons, List.foldl_nil, h]
    rw [this, List.length_append]; omega
  | some k =>
    rw [setSN_snoc h, List.length_append, List.length_singleton]
    simp only
    split <;> omega
theorem setSN_mem (acc : List D) (hk : ∀ d ∈ acc, d.isKey = true) (k : Key) : (setSN acc).1 k = true ↔ dK k ∈ acc := by
  revert hk
  refine snoc_ind (P := fun acc => (∀ d ∈ acc, d.isKey = true) → ((setSN acc).1 k = true ↔ dK k ∈ acc)) (fun _ => by simp [setSN]) (fun l d ih hk => ?_) acc
  obtain ⟨j, hj⟩ := kD_key (hk d (by simp))
  rw [setSN_snoc hj]
  simp only [Bool.or_eq_true, decide_eq_true_eq, List.mem_append, List.mem_singleton]
  rw [ih fun d hd => hk d (by simp [hd])]
  constructor
  · rintro (h | h)
    · exact .inl h
    · subst h; exact .inr (dK_kD hj)
  · rintro (h | h)
    · exact .inl h
    · refine .inr (dK_inj ?_)
      rw [h, dK_kD hj]
theorem loopC_pre {turn : D → Env → Res (List D × Env)} : ∀ {ds acc z : List D} {ρ ρ' : Env}, loopC turn ds acc ρ = .ok (z, ρ') → ∃ r, z = acc ++ r
  | [], acc, z, ρ, ρ', h => by simp only [loopC] at h; cases h; exact ⟨[], by simp⟩
  | d :: ds, acc, z, ρ, ρ', h => by
    simp only [loopC] at h
    obtain ⟨p, _, h⟩ := Res.bind_ok h
    split at h
    · obtain ⟨r, hr⟩ := loopC_pre h
      exact ⟨p.1 ++ r, by rw [hr, List.append_assoc]⟩
    · cases h
theorem runE_srs {G : Glo} (elt : E) (t : T) (it : I) (c : E) (ρ : Env) : runE G (.srs elt t it c) ρ = (runI G it ρ).bind fun s => if wipable s.2.1 t.slots then
      (loopC (turnC (setT t) t.slots (runC G c) (runL G elt)) s.1 [] (wipe s.2.1 t.slots)).bind fun z => if z.1.all D.isKey && decide (z.1.length < 4000) then (Res.of (dSorted z.1)).bind fun ss => (back s.2.2 z.2).bind fun ρ' => .ok (.own (.lst (uniqD ss)), ρ') else .stuck else .stuck := by
  simp only [runE]; rfl
section
variable {gi : GI} {G : Glo} {tabs : List Addr} {N : List Str} {sc ts : Scope} {k : Nat} {X : Cx}
def Bs.setAt (B : Bs) (w : World) (Da : Addr) (acc : List D) : Bs := B.put Da (SetMO w Da (setSN acc).1 (setSN acc).2)
theorem frn_set {w : World} {a : Addr} {S : Key → Bool} {n : Nat} : Frn (SetMO w a S n) := trivial
theorem R.setNext {B : Bs} {ss : List Sl} {vs : List (Option V)} {H : Hp} {Da : Addr} {acc : List D} {d : D} {kk : Key} (r : R X.K (B.setAt X.w Da acc) ss vs H) (h0 : B.H0 Da = none) (hk : kD d = some kk) (ht : ∀ b ∈ B.tabs, b ≠ Da) (hz : ∀ b, B.Z b → b ≠ Da) :
    R X.K (B.setAt X.w Da (acc ++ [d])) ss vs (upd H Da (SetMO X.w Da (fun j => (setSN acc).1 j || decide (j = kk)) (if (setSN acc).1 kk = true then (setSN acc).2 else (setSN acc).2 + 1))) := by
  have hfx : ∀ acc, (B.setAt X.w Da acc).fx Da = some (SetMO X.w Da (setSN acc).1 (setSN acc).2) := fun acc => by simp [Bs.setAt, Bs.put]
  obtain ⟨e, f⟩ := r.fix Da _ (hfx acc)
  refine r.chg (a := Da) rfl rfl rfl rfl h0 (fun b ne => upd_ne ne) (fun o ho => ?_) (fun b o ho => ?_) ht hz
  · rw [e] at ho; cases ho; exact f
  · by_cases hb : b = Da
    · subst hb
      rw [hfx, setSN_snoc hk] at ho
      cases ho
      exact ⟨upd_same, frn_set⟩
    · have h1 : (B.setAt X.w Da acc).fx b = some o := by simpa [Bs.setAt, Bs.put, hb] using ho
      obtain ⟨h2, h3⟩ := r.fix b o h1
      exact ⟨by rw [upd_ne hb]; exact h2, h3⟩
theorem loop_readS {B : Bs} {J : It} {ds : List D} {s : Sl} {v : Option V} {σ vs : List (Option V)} {tt : List Sl} {t : T} {c elt : E} {sl : List Nat} {accF : List D} {ρF ρ0 : Env} {H1 : Hp} {Fin : Hp → Prop} {Da : Addr} (hB : B.tabs = tabs) (h0 : B.H0 Da = none) (hta : ∀ b ∈ B.tabs, b ≠ Da) (hza : ∀ b, B.Z b → b ≠ Da)
    (hT : tt.length = vs.length) (wk : ∀ B', Wk X.K B' J ds s v) (hra : ∀ j ∈ sl, B.ra j = none ∧ j < σ.length) (l0 : ρ0.length = σ.length) (R0 : R X.K (B.setAt X.w Da []) (wipe ρ0 sl ++ tt ++ [s]) (L2.wipe σ sl ++ vs ++ [v]) H1)
    (g2 : loopC (turnC (setT t) sl (runC G c) (runL G elt)) ds [] (wipe ρ0 sl) = .ok (accF, ρF)) (hsl : ∀ j ∈ t.slots, j ∈ sl) (hkey : ∀ d ∈ accF, d.isKey = true) (hsz : accF.length < 4000)
    (hfin : ∀ H5, ρF.length = σ.length → R X.K (B.setAt X.w Da accF) (ρF ++ tt ++ [s]) (σ ++ vs ++ [v]) H5 → Fin H5) :
    ∃ W : Nat → Nat → Hp → Prop, (∃ m, W 0 m H1) ∧ ∀ i m H, W i m H → (J.stop i H ∧ Fin H) ∨ (J.go i H ∧ ∃ Nx : Hp → Prop, (∀ H', Nx H' → ∃ m', m' < m ∧ W (i + 1) m' H') ∧
      ∀ x H', J.yld i H x H' → gDx X.K tabs t x (L2.wipe σ sl) H' fun σ2 H2 => L2.wipe σ2 sl = L2.wipe σ sl ∧ tCx X.K tabs G c σ2 H2 fun b H3 => if b = true then tEx X.K tabs (runE G elt) σ2 H3 fun y H4 => ∃ (c : Key) (S : Key → Bool) (n : Nat), y = kV c ∧ H4 Da = some (SetMO X.w Da S n) ∧ n + 1 < scanBound ∧ Nx (upd H4 Da (SetMO X.w Da (fun j => S j || decide (j = c)) (if S c = true then n else n + 1))) else Nx H3) := by
  have tabs' : ∀ acc, (B.setAt X.w Da acc).tabs = tabs := fun acc => hB
  have hra' : ∀ acc, ∀ j ∈ sl, (B.setAt X.w Da acc).ra j = none := fun acc j hj => (hra j hj).1
  refine ⟨fun i m H => m = ds.length - i ∧ i ≤ ds.length ∧ ∃ (ρi : Env) (acc : List D), ρi.length = σ.length ∧ (∀ j ∈ sl, ρi[j]? = some .no) ∧
      R X.K (B.setAt X.w Da acc) (ρi ++ tt ++ [s]) (L2.wipe σ sl ++ vs ++ [v]) H ∧ loopC (turnC (setT t) sl (runC G c) (runL G elt)) (ds.drop i) acc ρi = .ok (accF, ρF), ⟨ds.length, rfl, Nat.zero_le _, wipe ρ0 sl, [], by simp [wipe_len, l0], fun j hj => wipe_in hj (by have := (hra j hj).2; omega), R0, g2⟩, ?_⟩
  rintro i m H5 ⟨rfl, hi, ρi, acc, li, hno, R5, gl⟩
  have l5 : (ρi ++ tt).length = (L2.wipe σ sl ++ vs).length := by simp [li, L2.wipe_length, hT]
  by_cases hlt2 : i < ds.length
  · right
    obtain ⟨d, hd⟩ : ∃ d, ds[i]? = some d := ⟨ds[i], List.getElem?_eq_getElem hlt2⟩
    have hdr : ds.drop i = d :: ds.drop (i + 1) := by
      rw [List.drop_eq_getElem_cons hlt2]
      rw [List.getElem?_eq_getElem hlt2] at hd
      cases hd; rfl
    rw [hdr] at gl
    simp only [loopC] at gl
    obtain ⟨⟨ys, ρn⟩, g4, gl⟩ := Res.bind_ok gl
    by_cases hz : lineOk (acc.length + ys.length) = true
    · simp only [hz, if_true] at gl
      simp only [turnC] at g4
      obtain ⟨ρ2, g5, g4⟩ := Res.bind_ok g4
      have g5 := Res.of_ok g5
      obtain ⟨⟨b, ρ3⟩, g6, g4⟩ := Res.bind_ok g4
      refine ⟨(wk _).go i _ _ H5 hlt2 l5 R5, fun H' => ∃ (ρi : Env) (acc : List D), ρi.length = σ.length ∧ (∀ j ∈ sl, ρi[j]? = some .no) ∧ R X.K (B.setAt X.w Da acc) (ρi ++ tt ++ [s]) (L2.wipe σ sl ++ vs ++ [v]) H' ∧ loopC (turnC (setT t) sl (runC G c) (runL G elt)) (ds.drop (i + 1)) acc ρi = .ok (accF, ρF), fun H' ⟨ρi', acc', q1, q2, q3, q4⟩ => ⟨ds.length - (i + 1), by omega, rfl, hlt2, ρi', acc', q1, q2, q3, q4⟩, fun x H' y => ?_⟩
      have R6 := (wk _).yld i _ _ H5 x H' d hd l5 R5 y
      refine ⟨_, tabs' acc, ρi, tt ++ [s], vs ++ [v], d, ρ2, by simpa using R6, by simp [li, L2.wipe_length], g5, fun σ2 H2 s1 s2 R7 => ?_⟩
      rw [L2.wipe_length] at s1
      have s3 : ∀ j, j ∉ sl → σ2[j]? = σ[j]? := fun j hj => by rw [s2 j (fun m => hj (hsl j m)), L2.wipe_out hj]
      refine ⟨lwipe_eq s1 s3, ?_⟩
      have l7 : ρ2.length = σ2.length := by have a := R7.len; simp at a; omega
      refine ⟨_, tabs' acc, ρ2, tt ++ [s], vs ++ [v], b, ρ3, R7, l7, g6, fun H3 R8 => ?_⟩
      have l8 : ρ3.length = σ2.length := by have a := R8.len; simp at a; omega
      have fin : ∀ {ρe : Env} {acc' : List D} {He : Hp}, ρe.length = σ2.length → R X.K (B.setAt X.w Da acc') (ρe ++ tt ++ [s]) (σ2 ++ vs ++ [v]) He → R X.K (B.setAt X.w Da acc') (wipe ρe sl ++ tt ++ [s]) (L2.wipe σ sl ++ vs ++ [v]) He := fun {ρe acc' He} le Re => by
        have q : R X.K (B.setAt X.w Da acc') (ρe ++ (tt ++ [s])) (σ2 ++ (vs ++ [v])) He := by simpa using Re
        have q2 := q.wiped (sl := sl) (σ' := L2.wipe σ sl) le (by rw [L2.wipe_length, s1]) (fun j hj => by rw [L2.wipe_out hj, s3 j hj]) fun j hj => hra' acc' j hj
        simpa using q2
      have R8' : R X.K (B.setAt X.w Da acc) (ρ3 ++ tt ++ [s]) (σ2 ++ vs ++ [v]) H3 := by simpa using R8
      cases b with
      | false =>
        simp only [Bool.false_eq_true, if_false] at g4 ⊢
        cases g4
        rw [List.append_nil] at gl
        exact ⟨wipe ρ3 sl, acc, by rw [wipe_len]; omega, fun j hj => wipe_in hj (by have := (hra j hj).2; omega), fin l8 R8', gl⟩
      | true =>
        simp only [if_true] at g4 ⊢
        obtain ⟨⟨ys', ρ5⟩, g7, g4⟩ := Res.bind_ok g4
        cases g4
        unfold runL at g7
        obtain ⟨⟨re, ρ4⟩, g8, g7⟩ := Res.bind_ok g7
        cases g7
        refine ⟨_, tabs' acc, ρ3, tt ++ [s], vs ++ [v], re, ρ4, by simpa using R8', l8, g8, fun y H4 R9 => ?_⟩
        obtain ⟨q0, q1⟩ := R9.take1
        obtain ⟨rest, hrest⟩ := loopC_pre gl
        have hmem : re.d ∈ accF := by rw [hrest]; simp
        obtain ⟨kk, hkk⟩ := kD_key (hkey _ hmem)
        have ey : y = kV kk := by
          cases hd' : re.d with
          | int i => rw [hd'] at q1 hkk; cases hkk; exact q1.intV
          | str l => rw [hd'] at q1 hkk; cases hkk; exact q1.strV
          | _ => rw [hd'] at hkk; cases hkk
        obtain ⟨e4, _⟩ := q0.fix Da (SetMO X.w Da (setSN acc).1 (setSN acc).2) (by simp [Bs.setAt, Bs.put])
        refine ⟨kk, _, _, ey, e4, ?_, ?_⟩
        · have a1 := setSN_len acc
          have a2 := congrArg List.length hrest
          simp at a2
          unfold scanBound
          omega
        · have R10 := q0.setNext h0 hkk hta hza
          have l9 : ρ4.length = σ2.length := by have a := R10.len; simp at a; omega
          exact ⟨wipe ρ4 sl, acc ++ [re.d], by rw [wipe_len]; omega, fun j hj => wipe_in hj (by have := (hra j hj).2; omega), fin l9 (by simpa using R10), gl⟩
    · simp only [hz] at gl; cases gl
  · left
    have e : i = ds.length := by omega
    subst e
    rw [List.drop_length] at gl
    simp only [loopC] at gl
    cases gl
    refine ⟨(wk _).stop _ _ H5 l5 R5, ?_⟩
    have R6 : R X.K (B.setAt X.w Da accF) (ρF ++ tt ++ [s]) (σ ++ vs ++ [v]) H5 := by
      refine R5.unwipe (by simp [L2.wipe_length]) fun j => ?_
      by_cases hj : j ∈ sl
      · right
        exact getL (getL (hno j hj))
      · left
        simp only [List.append_assoc]
        by_cases hz : j < σ.length
        · rw [List.getElem?_append_left hz, List.getElem?_append_left (by rw [L2.wipe_length]; exact hz), L2.wipe_out hj]
        · rw [List.getElem?_append_right (l₁ := σ) (by omega), List.getElem?_append_right (l₁ := L2.wipe σ sl) (by rw [L2.wipe_length]; omega), L2.wipe_length]
    exact hfin H5 li R6
theorem dSorted_iff {l ss : List D} (h : dSorted l = some ss) : sortable l = true ∧ ss = sortD l := by
  unfold dSorted at h
  split at h
  · cases h; exact ⟨by assumption, rfl⟩
  · cases h
theorem srs_read {elt : E} {t : T} {it : I} {c : E} {B : Bs} {σ : L2.St} {H : Hp} {Q : VK} (hB : B.tabs = tabs) (h : tE X.K B (runE G (.srs elt t it c)) σ H Q) :
    tScM X.w (iD X.K B (runI G it)) (gDx X.K tabs t) (tCx X.K tabs G c) (tEx X.K tabs (runE G elt)) t.slots σ H fun y H1 => rSortedM X.w [y] H1 Q := by
  obtain ⟨ρ, tt, vs, r, ρ', hR, hl, hF, hQ⟩ := h
  rw [runE_srs] at hF
  obtain ⟨⟨ds, ρ1, mv⟩, g1, hF⟩ := Res.bind_ok hF
  by_cases hw : wipable ρ1 t.slots = true
  · simp only [hw, if_true] at hF
    obtain ⟨⟨accF, ρF⟩, g2, hF⟩ := Res.bind_ok hF
    by_cases hkz : (accF.all D.isKey && decide (accF.length < 4000)) = true
    · simp only [hkz, if_true] at hF
      obtain ⟨ss, g4, hF⟩ := Res.bind_ok hF
      obtain ⟨hso, rfl⟩ := dSorted_iff (Res.of_ok g4)
      obtain ⟨ρb, g3, hF⟩ := Res.bind_ok hF
      cases hF
      rw [Bool.and_eq_true, decide_eq_true_eq, List.all_eq_true] at hkz
      refine ⟨ρ, tt, vs, ds, ρ1, mv, hR, hl, g1, fun J H1 s v hH R1 wk Da hD => ?_⟩
      have hlt : tt.length = vs.length := by have a := hR.len; simp at a; omega
      have l1 : ρ1.length = σ.length := by have a := hR.len; have b := R1.len; simp at a b; omega
      have R1a : R X.K B (ρ1 ++ (tt ++ [s])) (σ ++ (vs ++ [v])) H1 := by simpa using R1
      have hra := wipable_ra R1a hw
      have R2 : R X.K B (wipe ρ1 t.slots ++ (tt ++ [s])) (L2.wipe σ t.slots ++ (vs ++ [v])) H1 := R1a.wiped l1 (L2.wipe_length _ _) (fun j hj => L2.wipe_out hj) fun j hj => (hra j hj).1
      have R3 := R2.putNew hD (o := SetMO X.w Da (fun _ => false) 0) trivial
      have R4 : R X.K (B.setAt X.w Da []) (wipe ρ1 t.slots ++ tt ++ [s]) (L2.wipe σ t.slots ++ vs ++ [v]) (upd H1 Da (SetMO X.w Da (fun _ => false) 0)) := by
        rw [List.append_assoc, List.append_assoc]; exact R3
      have hta : ∀ b ∈ B.tabs, b ≠ Da := fun b hb e => by
        obtain ⟨ps, q, _⟩ := R1.tab b hb
        rw [e, hD] at q; cases q
      have hza : ∀ b, B.Z b → b ≠ Da := fun b hb e => by
        obtain ⟨o, q, _⟩ := R1.zed b hb
        rw [e, hD] at q; cases q
      refine loop_readS (B := B) hB (R1.new0 hD) hta hza hlt wk (fun j hj => ⟨(hra j hj).1, by have := (hra j hj).2; omega⟩) l1 R4 g2 (fun _ h => h) hkz.1 hkz.2 fun H5 l5 R5 => ?_
      have R8 := R5.home hH g3 l5
      obtain ⟨e5, _⟩ := R8.fix Da (SetMO X.w Da (setSN accF).1 (setSN accF).2) (by simp [Bs.setAt, Bs.put])
      have kall : Kall accF := ⟨hkz.1, (sortable_iff hso).2.2.1⟩
      refine ⟨Da, _, _, rfl, e5, fun L hL => sortable_sub hso fun x hx => ?_, fun L ks p hL hm hks hp => ?_⟩
      · obtain ⟨k, hk, rfl⟩ := List.mem_map.mp hx
        exact (setSN_mem accF hkz.1 k).mp (hL k hk)
      · have e6 : ks.map dK = uniqD (sortD accF) := by
          rw [hks]
          refine sort_set kall (nodup_map dK_inj hL) fun x => ?_
          constructor
          · intro hx
            obtain ⟨k, hk, rfl⟩ := List.mem_map.mp hx
            exact (setSN_mem accF hkz.1 k).mp ((hm k).mp hk)
          · intro hx
            obtain ⟨k, hk⟩ := kD_key (hkz.1 x hx)
            have e7 := dK_kD hk
            refine List.mem_map.mpr ⟨k, (hm k).mpr ((setSN_mem accF hkz.1 k).mpr (by rw [e7]; exact hx)), e7⟩
        have rk : ∀ (M : Addr → Prop) (H : Hp) (ks : List Key), RpA X.K M H (ks.map kV) (ks.map dK) := fun M H ks => by
          induction ks with
          | nil => exact .nil
          | cons k ks ih => exact .cons (kV_rp k) ih
        have R9 := R8.fxOff (fx := B.fx) fun b o hb => by
          by_cases e : b = Da
          · subst e
            obtain ⟨q, _⟩ := R1.fix b o hb
            rw [hD] at q; cases q
          · simpa [Bs.setAt, Bs.put, e] using hb
        have R10 : R X.K B (ρ' ++ tt) (σ ++ vs) H5 := R9
        refine hQ _ _ ?_
        have R11 := R10.push_own (d := .lst (uniqD (sortD accF))) (H' := upd H5 p (.lst (ks.map kV))) hp (Grow.new hp) ⟨ks.map kV, upd_same, by rw [← e6]; exact rk _ _ ks⟩
        exact R11
    · simp only [hkz] at hF; cases hF
  · simp only [hw] at hF; cases hF
where nodup_map {f : Key → D} (hf : ∀ {a b : Key}, f a = f b → a = b) : ∀ {l : List Key}, l.Nodup → (l.map f).Nodup
  | [], _ => List.nodup_nil
  | a :: l, h => by
    obtain ⟨h1, h2⟩ := List.nodup_cons.mp h
    refine List.nodup_cons.mpr ⟨fun z => ?_, nodup_map hf h2⟩
    obtain ⟨b, hb, e⟩ := List.mem_map.mp z
    exact h1 (hf e ▸ hb)
theorem blt_sorted : (("sorted" : String) : Str) ∈ bltNames := by decide +kernel
theorem snd_srs (o : XOk gi G tabs N sc ts k X) {elt c : E} {t : T} {it : I} {x : Expr} (h : okE gi N sc (.srs elt t it c) x = true) (ihi : IHI gi G tabs N it) (ihc : IH gi G tabs N c) (ihe : IH gi G tabs N elt) : SE tabs X x (runE G (.srs elt t it c)) := fun B hB => by
  simp only [okE] at h
  split at h
  · rename_i f y e
    obtain ⟨p, pos, rfl⟩ := asCall_some e
    simp only [Bool.and_eq_true, decide_eq_true_eq] at h
    obtain ⟨⟨rfl, h0⟩, h⟩ := h
    cases e2 : asSC y with
    | none => rw [e2] at h; cases h
    | some z =>
      rw [e2] at h
      simp only [Bool.and_eq_true] at h
      obtain ⟨pos2, rfl⟩ := asSC_some e2
      obtain ⟨⟨⟨⟨h1, h2⟩, h3⟩, h4⟩, h5⟩ := h
      have ob := fun s H C cl fp => o.blk z.scope s H C cl fp
      have q := pe_scM (X := X) (pos := pos2) (own := ownOf N t.slots) (tg := z.tg) (elt := z.elt) (te := tEx X.K tabs (runE G elt)) (tt := tCx X.K tabs G c) (g := gDx X.K tabs t) o.calm (by rw [o.hN]; exact o.nd) (ihi o z.tg z.iter h2 B hB) (by rw [o.hN, o.sc]; exact blkOk_by h1) (fun s H C cl fp => PG.ex fun B' hB' => pg_ok (ob s H C cl fp) B' t z.tg h3) (fun s H C cl fp => PTs.ex fun B' hB' => snd_ifs h4 (ihc.st (ob s H C cl fp)) B' hB') (fun s H C cl fp => PE.ex fun B' hB' => ihe.se (ob s H C cl fp) z.elt h5 B' hB') (notsetI (okI_set h2) _)
      rw [own_slots] at q
      obtain ⟨n1, n2⟩ := bltN blt_sorted
      have bs : bootBuiltins (("sorted" : String) : Str) = some (.builtin "sorted") := by first | exact biB .sorted (by decide) | rfl
      refine (pe_callB (cr_sortedM o.hu o.calm) (o.gl h0) (o.blt _ blt_sorted) bs (pa_cons q pa_nil) n1 n2 (star_of rfl) rfl).imp fun σ H Q hq => ?_
      exact srs_read hB hq
  · cases h
end
end Gw

set_option Elab.async false
set_option linter.all false
set_option maxRecDepth 100000
set_option maxHeartbeats 4000000
/-! The value layer: all(..), any(..) of a generator expression: as the small syntax says. -/
namespace Gw
open PySem L2
section
variable {gi : GI} {G : Glo} {tabs : List Addr} {N : List Str} {sc ts : Scope} {k : Nat} {X : Cx}
theorem noCell_iff {scope : Scope} (h : noCell scope = true) : ∀ y ∈ scope.names, y.2 ≠ .cell := fun y hy e => by
  unfold noCell at h
  have q := List.all_eq_true.mp h y hy
  rw [e] at q
  cases q
theorem XOk.gen (o : XOk gi G tabs N sc ts k X) {scope : Scope} (hc : noCell scope = true) {Ag : Around} (hr : Room k Ag) (s : Shared) (H : Hp) (C : Addr) (code : Value) (cl : List (Str × Addr)) (fp : List Addr) (pn : List (Addr × Obj)) :
    XOk gi.off G tabs N scope scope k (genX X Ag s H (genEnv scope cl C code builtinsNs X.env) fp pn) where
  hN := o.hN
  sc := rfl
  calm := o.calm
  nd := o.nd
  dbg := o.dbg
  room := hr
  roomG := fun h => by cases h
  code := fun h => by cases h
  blt := o.blt
  fn := o.fn
  cst := o.cst
  fnm := fun x h => by
    rcases isLoc_iff h with q | q
    · exact ⟨.inl q, .inr q⟩
    · exact (noCell_iff hc _ (PySem.mem_of_lookup q) rfl).elim
theorem runE_gen {gk : Gk} (hk : gk ≠ .sum) (elt : E) (t : T) (it : I) (c : E) (ρ : Env) : runE G (.gen gk elt t it c) ρ = (runI G it ρ).bind fun s => if wipable s.2.1 t.slots then
      (loopB gk.stop (turnC (setT t) t.slots (runC G c) (runL G elt)) s.1 (wipe s.2.1 t.slots)).bind fun z => (back s.2.2 z.2).bind fun ρ' => .ok (.val (.bl z.1), ρ') else .stuck := by
  cases gk with
  | sum => exact (hk rfl).elim
  | all => simp only [runE]; rfl
  | any => simp only [runE]; rfl
theorem genB_read {gk : Gk} (hk : gk ≠ .sum) {elt : E} {t : T} {it : I} {c : E} {B : Bs} {P : Addr} (hP : P ∈ B.tabs) {σ : L2.St} {H : Hp} {Q : VK} (h : tE X.K B (runE G (.gen gk elt t it c)) σ H Q) :
    tGenB P gk.stop (iD X.K B (runI G it)) (gD X.K B t) (tCnd X.K B G c) (tE X.K B (runE G elt)) t.slots σ H Q := by
  obtain ⟨ρ, tt, vs, r, ρ', hR, hl, hF, hQ⟩ := h
  rw [runE_gen hk] at hF
  obtain ⟨⟨ds, ρ1, mv⟩, g1, hF⟩ := Res.bind_ok hF
  by_cases hw : wipable ρ1 t.slots = true
  · simp only [hw, if_true] at hF
    obtain ⟨⟨bF, ρF⟩, g2, hF⟩ := Res.bind_ok hF
    obtain ⟨ρb, g3, hF⟩ := Res.bind_ok hF
    cases hF
    refine ⟨ρ, tt, vs, ds, ρ1, mv, hR, hl, g1, fun J H1 s v hH R1 wk => ⟨R1.tab P hP, fun H2 tab => ?_⟩⟩
    have R1 := R1.grow (H' := H2) ⟨fun a o e n => by
        have ne : a ≠ P := fun z => by
          obtain ⟨ps, q, _⟩ := R1.tab P hP
          rw [z, q] at e
          cases e
          exact n ps rfl
        rw [tab.2 a ne]; exact e, fun a ps e => by
        by_cases z : a = P
        · obtain ⟨ps', q, _⟩ := tab.1
          exact ⟨ps', by rw [z]; exact q⟩
        · exact ⟨ps, by rw [tab.2 a z]; exact e⟩, fun a ha q => by
        by_cases z : a = P
        · rw [z]; exact tab.1
        · obtain ⟨ps, e, tr⟩ := q
          exact ⟨ps, by rw [tab.2 a z]; exact e, tr⟩⟩
    have hlt : tt.length = vs.length := by have a := hR.len; simp at a; omega
    have l1 : ρ1.length = σ.length := by have a := hR.len; have b := R1.len; simp at a b; omega
    have R1a : R X.K B (ρ1 ++ (tt ++ [s])) (σ ++ (vs ++ [v])) H2 := by simpa using R1
    have hra := wipable_ra R1a hw
    have R2 := R1a.wiped (sl := t.slots) (σ' := L2.wipe σ t.slots) l1 (L2.wipe_length _ _) (fun j hj => L2.wipe_out hj) fun j hj => (hra j hj).1
    have fin : ∀ {He : Hp}, ρF.length = σ.length → (∀ j ∈ t.slots, ρF[j]? = some .no) → R X.K B (ρF ++ tt ++ [s]) (L2.wipe σ t.slots ++ vs ++ [v]) He → Q (.bl bF) He := fun {He} le hno R5 => by
      have R6 : R X.K B (ρF ++ tt ++ [s]) (σ ++ vs ++ [v]) He := by
        refine R5.unwipe (by simp [L2.wipe_length]) fun j => ?_
        by_cases hj : j ∈ t.slots
        · right
          exact getL (getL (hno j hj))
        · left
          simp only [List.append_assoc]
          by_cases hz : j < σ.length
          · rw [List.getElem?_append_left hz, List.getElem?_append_left (by rw [L2.wipe_length]; exact hz), L2.wipe_out hj]
          · rw [List.getElem?_append_right (l₁ := σ) (by omega), List.getElem?_append_right (l₁ := L2.wipe σ t.slots) (by rw [L2.wipe_length]; omega), L2.wipe_length]
      have R7 := R6.home hH g3 le
      exact hQ _ He (R7.push_val (.bl bF))
    refine ⟨fun i m H => m = ds.length - i ∧ i ≤ ds.length ∧ ∃ ρi : Env, ρi.length = σ.length ∧ (∀ j ∈ t.slots, ρi[j]? = some .no) ∧ R X.K B (ρi ++ tt ++ [s]) (L2.wipe σ t.slots ++ vs ++ [v]) H ∧ loopB gk.stop (turnC (setT t) t.slots (runC G c) (runL G elt)) (ds.drop i) ρi = .ok (bF, ρF), ⟨ds.length, rfl, Nat.zero_le _, wipe ρ1 t.slots, by simp [wipe_len, l1], fun j hj => wipe_in hj (hra j hj).2, by simpa using R2, g2⟩, ?_⟩
    rintro i m H5 ⟨rfl, hi, ρi, li, hno, R5, gl⟩
    have l5 : (ρi ++ tt).length = (L2.wipe σ t.slots ++ vs).length := by simp [li, L2.wipe_length, hlt]
    by_cases hlt2 : i < ds.length
    · right
      obtain ⟨d, hd⟩ : ∃ d, ds[i]? = some d := ⟨ds[i], List.getElem?_eq_getElem hlt2⟩
      have hdr : ds.drop i = d :: ds.drop (i + 1) := by
        rw [List.drop_eq_getElem_cons hlt2]
        rw [List.getElem?_eq_getElem hlt2] at hd
        cases hd; rfl
      rw [hdr] at gl
      simp only [loopB] at gl
      obtain ⟨⟨ys, ρn⟩, g4, gl⟩ := Res.bind_ok gl
      simp only [turnC] at g4
      obtain ⟨ρ2, g5, g4⟩ := Res.bind_ok g4
      have g5 := Res.of_ok g5
      obtain ⟨⟨b, ρ3⟩, g6, g4⟩ := Res.bind_ok g4
      refine ⟨(wk B).go i _ _ H5 hlt2 l5 R5, by omega, fun H' => ∃ ρi : Env, ρi.length = σ.length ∧ (∀ j ∈ t.slots, ρi[j]? = some .no) ∧ R X.K B (ρi ++ tt ++ [s]) (L2.wipe σ t.slots ++ vs ++ [v]) H' ∧ loopB gk.stop (turnC (setT t) t.slots (runC G c) (runL G elt)) (ds.drop (i + 1)) ρi = .ok (bF, ρF), fun H' ⟨ρi', q1, q2, q3, q4⟩ => ⟨ds.length - (i + 1), by omega, rfl, hlt2, ρi', q1, q2, q3, q4⟩, fun x H' y => ?_⟩
      have R6 := (wk B).yld i _ _ H5 x H' d hd l5 R5 y
      refine ⟨ρi, tt ++ [s], vs ++ [v], d, ρ2, by simpa using R6, by simp [li, L2.wipe_length], g5, fun σ2 H2 s1 s2 R7 => ?_⟩
      rw [L2.wipe_length] at s1
      have s3 : ∀ j, j ∉ t.slots → σ2[j]? = σ[j]? := fun j hj => by rw [s2 j hj, L2.wipe_out hj]
      refine ⟨lwipe_eq s1 s3, ?_⟩
      have l7 : ρ2.length = σ2.length := by have a := R7.len; simp at a; omega
      refine ⟨ρ2, tt ++ [s], vs ++ [v], b, ρ3, R7, l7, g6, fun H3 R8 => ?_⟩
      have l8 : ρ3.length = σ2.length := by have a := R8.len; simp at a; omega
      have done : ∀ {ρe : Env} {He : Hp}, ρe.length = σ2.length → R X.K B (ρe ++ tt ++ [s]) (σ2 ++ vs ++ [v]) He → R X.K B (wipe ρe t.slots ++ tt ++ [s]) (L2.wipe σ t.slots ++ vs ++ [v]) He := fun {ρe He} le Re => by
        have q : R X.K B (ρe ++ (tt ++ [s])) (σ2 ++ (vs ++ [v])) He := by simpa using Re
        have q2 := q.wiped (sl := t.slots) (σ' := L2.wipe σ t.slots) le (by rw [L2.wipe_length, s1]) (fun j hj => by rw [L2.wipe_out hj, s3 j hj]) fun j hj => (hra j hj).1
        simpa using q2
      have R8' : R X.K B (ρ3 ++ tt ++ [s]) (σ2 ++ vs ++ [v]) H3 := by simpa using R8
      cases b with
      | false =>
        simp only [Bool.false_eq_true, if_false] at g4 ⊢
        cases g4
        exact ⟨wipe ρ3 t.slots, by rw [wipe_len]; omega, fun j hj => wipe_in hj (by have := (hra j hj).2; omega), done l8 R8', gl⟩
      | true =>
        simp only [if_true] at g4 ⊢
        obtain ⟨⟨ys', ρ5⟩, g7, g4⟩ := Res.bind_ok g4
        cases g4
        unfold runL at g7
        obtain ⟨⟨re, ρ4⟩, g8, g7⟩ := Res.bind_ok g7
        cases g7
        refine ⟨ρ3, tt ++ [s], vs ++ [v], re, ρ4, by simpa using R8, l8, g8, fun y H4 R9 => ?_⟩
        obtain ⟨q0, q1⟩ := R9.take1
        have l9 : ρ4.length = σ2.length := by have a := q0.len; simp at a; omega
        have q0' : R X.K B (ρ4 ++ tt ++ [s]) (σ2 ++ vs ++ [v]) H4 := by simpa using q0
        have R10 := done l9 q0'
        have n10 : ∀ j ∈ t.slots, (wipe ρ4 t.slots)[j]? = some .no := fun j hj => wipe_in hj (by have := (hra j hj).2; omega)
        simp only at gl
        cases ed : re.d with
        | bl b =>
          rw [ed] at gl q1
          simp only at gl
          refine ⟨b, q1.blV, fun hb => ?_, fun hb => ?_⟩
          · have e : (b == gk.stop) = false := by simpa using hb
            rw [e] at gl
            simp only [Bool.false_eq_true, if_false] at gl
            exact ⟨ds.length - (i + 1), by omega, rfl, hlt2, _, by rw [wipe_len]; omega, n10, R10, gl⟩
          · have e : (b == gk.stop) = true := by simpa using hb
            rw [e] at gl
            simp only [if_true] at gl
            cases gl
            exact fin (by rw [wipe_len]; omega) n10 R10
        | _ => rw [ed] at gl; cases gl
    · left
      have e : i = ds.length := by omega
      subst e
      rw [List.drop_length] at gl
      simp only [loopB] at gl
      cases gl
      exact ⟨(wk B).stop _ _ H5 l5 R5, fin li hno R5⟩
  · simp only [hw] at hF; cases hF
theorem notsetG {x : Expr} (h : isSetE x = false) (h2 : asLst x = none) (env : PySem.Env) : ∀ v, genFold x env v = pure v := fun v => by
  cases x <;> first | rfl | (simp [isSetE] at h; done) | (simp [asLst] at h2)
theorem snd_genB (o : XOk gi G tabs N sc ts k X) {gk : Gk} {elt c : E} {t : T} {it : I} {x : Expr} (hk : gk ≠ .sum) (h : okE gi N sc (.gen gk elt t it c) x = true) (ihi : IHI gi G tabs N it) (ihc : IH gi.off G tabs N c) (ihe : IH gi.off G tabs N elt) : SE tabs X x (runE G (.gen gk elt t it c)) := fun B hB => by
  simp only [okE] at h
  split at h
  · rename_i f y e
    obtain ⟨p, pos, rfl⟩ := asCall_some e
    simp only [Bool.and_eq_true, decide_eq_true_eq] at h
    obtain ⟨⟨⟨hg, rfl⟩, hgl⟩, h⟩ := h
    have en : gkN gk = gnN gk.stop := by cases gk <;> first | rfl | exact (hk rfl).elim
    rw [en] at hgl ⊢
    cases e2 : asGen y with
    | none => rw [e2] at h; cases h
    | some z =>
      rw [e2] at h
      simp only [Bool.and_eq_true, Option.isNone_iff_eq_none] at h
      obtain ⟨gpos, rfl⟩ := asGen_some e2
      obtain ⟨⟨⟨⟨⟨h1, h0⟩, h2⟩, h3⟩, h4⟩, h5⟩ := h
      unfold genC at h1
      simp only [Bool.and_eq_true, Bool.not_eq_true'] at h1
      obtain ⟨⟨⟨h1, hco⟩, hnc⟩, hdot⟩ := h1
      obtain ⟨cc, P, ecode, TB, hP⟩ := o.code hg
      have S : GenSc z.scope := ⟨hco, noCell_iff hnc, by
        unfold dotLoc at hdot
        split at hdot
        · assumption
        · cases hdot⟩
      have ob := fun Ag s H C code cl fp pn (hr : Room k Ag) => o.gen hnc hr s H C code cl fp pn
      have q := pe_genB (X := X) (stop := gk.stop) (p := p) (pos := pos) (gpos := gpos) (own := ownOf N t.slots) (tg := z.tg) (elt := z.elt) (te := tE X.K B (runE G elt)) (tt := tCnd X.K B G c) (g := gD X.K B t) (o.roomG hg) o.calm (by rw [o.hN]; exact o.nd) TB ecode S (by rw [o.hN, o.sc]; exact blkOk_by h1) (o.gl hgl) (o.blt _ (by cases gk.stop <;> decide)) (ihi o z.tg z.iter h2 B hB) (notsetG (okI_set h2) h0 _)
        (fun Ag s H C code cl fp pn hr => pg_ok (ob Ag s H C code cl fp pn hr) B t z.tg h3) (fun Ag s H C code cl fp pn hr => snd_ifs h4 (ihc.st (ob Ag s H C code cl fp pn hr)) B hB) (fun Ag s H C code cl fp pn hr => ihe.se (ob Ag s H C code cl fp pn hr) z.elt h5 B hB)
      rw [own_slots] at q
      exact q.imp fun σ H Q hq => genB_read hk (by rw [hB]; exact hP) hq
  · cases h
end
end Gw

set_option Elab.async false
set_option linter.all false
set_option maxRecDepth 100000
set_option maxHeartbeats 4000000
/-! The value layer: sum(..) of a generator expression: the loop. -/
namespace Gw
open PySem PySem.Spec PyProof.Rows L2
def totO (tot : Int) (t : Tok) (c : Nat) : Obj := { cls := .type "list", dict := none, data := .seq #[.int tot t] c, slots := #[] }
def TotAt (S : Addr) (tot : Int) (h : Heap) : Prop := ∃ t c, h.get? S = some (totO tot t c)
theorem TotAt.inj {S : Addr} {a b : Int} {h : Heap} (x : TotAt S a h) (y : TotAt S b h) : a = b := by
  obtain ⟨t, c, e⟩ := x
  obtain ⟨t', c', e'⟩ := y
  rw [e] at e'
  unfold totO at e'
  simp at e'
  exact e'.1.1
section
variable {X : Cx} {fp : List Addr} {it : Addr} {tn : Nat → Heap → Prop} {J : It} {σ : L2.St} {vs : List Nat} {W : Int → Nat → Nat → Hp → Prop} {Yd : Int → Nat → Nat → V → Hp → Prop} {Fin : Int → Hp → Prop}
theorem upd_S {tg : Expr} {S : Addr} {pins : List (Addr × Obj)} {i : Nat} {H : Hp} {s : Shared} {h' : Heap} {o' : Obj} {t' : Nat} (T : Turn X.prog X.w X.K tg J fp it tn) (hSf : S ∉ fp) (hS : ∀ H' : Hp, H' S = none → FpOk X [] H' S) (j : GJ X pins fp tn σ i H s) (hP : Pn [S] fp pins)
    (k : ∀ b o, b ≠ S → s.heap.get? b = some o → h'.get? b = some o) (e : h'.get? S = some o') (hd : ∀ v, o'.data ≠ .cell v) :
    GJ X [(S, o')] fp tn σ i H { s with heap := h', toks := t' } ∧ Pn [S] fp [(S, o')] := by
  obtain ⟨o, ho⟩ := hP.cov S (by simp)
  have hn : H S = none := (j.inv.pin _ (List.mem_append_right _ ho)).2.1
  have I0 : L2.Inv X [] σ H s := L2.Inv.unpinned (pins := []) (pl := pins) j.inv
  obtain ⟨f0, f1, f2, f3, f4, f5⟩ := hS H hn
  have I1 : L2.Inv X [] σ H { s with heap := h', toks := t' } := I0.turned k f0 f1 f3 f4 f5
  refine ⟨⟨I1.pins_of fun p hp => ?_, T.keep _ _ _ j.tn fun b hb o e => k b o (fun z => hSf (by rw [← z]; exact hb)) e, j.fp⟩, fun b hb => ?_, fun p hp => ?_⟩
  · have : p = (S, o') := by simpa using hp
    subst this
    exact ⟨e, f0, f1, f2, hd⟩
  · have : b = S := by simpa using hb
    subst this
    exact ⟨o', by simp⟩
  · have : p = (S, o') := by simpa using hp
    subst this
    exact hSf
theorem sum_loop {tg : Expr} {A : Around} {g : Nat} {a S : Addr} {go : Obj} {Rr : Result → Shared → Prop} (T : Turn X.prog X.w X.K tg J fp it tn) (hh : A.handled = none) (hroom : A.depth < recursionLimit) (hgen : ∀ h : Heap, h.get? a = some go → h.IsGen a g) (hpin : (a, go) ∈ X.pn) (hSf : S ∉ fp) (hS : ∀ H' : Hp, H' S = none → FpOk X [] H' S)
    (hyd : ∀ tot i m y H, Yd tot i m y H → ∃ k : Int, y = .int k ∧ ∃ m', m' < m ∧ W (tot + k) (i + 1) m' H) (hE : ∀ s' tot t, gEnd X σ (Fin tot) s' → Rr (.ok (.ret (.int tot t))) s') :
    ∀ (n : Nat) (tot0 : Int) (H0 : Hp) (s : Shared) (st : Int), (st = 0 ∨ st = 2) → GAt X A.in1.in1 [S] fp tn σ (TotAt S) W Yd Fin g n tot0 H0 s → codeAny (model X.prog X.w) A (.builtin "sum.loop" ⟨[.ref a, .ref S, rawInt st, rawInt 0], []⟩) Rr s := by
  intro n
  induction n using Nat.strongRecOn with
  | ind n ih =>
    intro tot0 H0 s st hst G
    obtain ⟨tA, c, hS0⟩ := G.cor
    refine codeAny_builtin F.entry_sum_loop ?_
    rw [Around.under_plainId F.plain_sum_loop _]
    show wpAny _ A.in1 (seqItems? (.ref S) >>= _) _ _ s
    refine wpAny_bind (wpAny_seqItems hS0 rfl ?_)
    show wpAny _ A.in1 (tryCatch (pyNext (.ref a)) _ >>= _) _ _ s
    refine wpAny_bind (wpAny_tryCatch (gen_next (A1 := A.in1) G hh hroom hgen hpin (fun v s' i m H y pins tot rv yd hcr j hP sty hn => ?_) fun s' tot hcr e _ => ?_))
    · have et := hcr.inj G.cor
      subst et
      obtain ⟨k, rfl, m', hm', w'⟩ := hyd _ i m y H yd
      obtain ⟨t, rfl⟩ : ∃ t, v = .int k t := rv
      have hS' := sty S (by simp) _ hS0
      have next : ∀ (h' : Heap) (t' : Nat) (tt : Tok) (cc : Nat) (st' : Int), (st' = 0 ∨ st' = 2) → (∀ b o, b ≠ S → s'.heap.get? b = some o → h'.get? b = some o) → h'.get? S = some (totO (tot + k) tt cc) →
          codeAny (model X.prog X.w) A (.builtin "sum.loop" ⟨[.ref a, .ref S, rawInt st', rawInt 0], []⟩) Rr { s' with heap := h', toks := t' } := fun h' t' tt cc st' hs' kk e => by
        obtain ⟨j2, P2⟩ := upd_S (t' := t') T hSf hS j hP kk e (fun v z => by cases z)
        obtain ⟨n', rfl, G'⟩ := hn _ H _ (tot + k) j2 P2 ⟨tt, cc, e⟩ rfl ⟨m', hm', w'⟩
        exact ih n' (by omega) _ H _ st' hs' G'
      rcases hst with rfl | rfl
      · show wpAny _ A.in1 (if (_ : Bool) = true then (mkInt (tot + k) >>= _) else _) _ _ _
        split
        · refine wpAny_bind (wpAny_mkInt ?_)
          show wpAny _ A.in1 (updateSeq S (fun _ => #[.int (tot + k) s'.toks]) >>= _) _ _ _
          refine wpAny_bind ?_
          exact wpAny_updateSeq hS' rfl (wpAny_pure ⟨plainId_quiet F.plain_sum_loop _, next _ _ _ _ 0 (.inl rfl) (fun b o hb e => (Heap.get?_update_other _ _ (Ne.symm hb)).trans e) (Heap.get?_update_self _ hS' rfl)⟩)
        · refine wpAny_bind (wpAny_rule ?_)
          refine wpAny_bind (wpAny_attempt (wpAny_holding (wpAny_add_int ?_)))
          show wpAny _ A.in1 (updateSeq S (fun _ => #[.int (tot + k) s'.toks]) >>= _) _ _ _
          refine wpAny_bind (wpAny_updateSeq hS' rfl ?_)
          have hS₂ := Heap.get?_update_self (Obj.mapSeq fun _ => #[Value.int (tot + k) s'.toks]) hS' rfl
          refine wpAny_bind (wpAny_letGo ?_)
          exact wpAny_bind (wpAny_updateSeq hS₂ rfl (wpAny_pure ⟨plainId_quiet F.plain_sum_loop _, next _ _ _ _ 2 (.inr rfl) (fun b o hb e => (Heap.get?_update_other _ _ (Ne.symm hb)).trans ((Heap.get?_update_other _ _ (Ne.symm hb)).trans e)) (Heap.get?_update_self _ hS₂ rfl)⟩))
      · show wpAny _ A.in1 ((holding [Value.int k t] (binaryOp .Add (.int tot tA) (.int k t))).attempt >>= _) _ _ _
        refine wpAny_bind (wpAny_attempt (wpAny_holding (wpAny_add_int ?_)))
        show wpAny _ A.in1 (updateSeq S (fun _ => #[.int (tot + k) s'.toks]) >>= _) _ _ _
        refine wpAny_bind (wpAny_updateSeq hS' rfl ?_)
        have hS₂ := Heap.get?_update_self (Obj.mapSeq fun _ => #[Value.int (tot + k) s'.toks]) hS' rfl
        refine wpAny_bind (wpAny_letGo ?_)
        exact wpAny_bind (wpAny_updateSeq hS₂ rfl (wpAny_pure ⟨plainId_quiet F.plain_sum_loop _, next _ _ _ _ 2 (.inr rfl) (fun b o hb e => (Heap.get?_update_other _ _ (Ne.symm hb)).trans ((Heap.get?_update_other _ _ (Ne.symm hb)).trans e)) (Heap.get?_update_self _ hS₂ rfl)⟩))
    · have et := hcr.inj G.cor
      subst et
      exact wpAny_pure (hE s' _ tA e)
end
end Gw

set_option Elab.async false
set_option linter.all false
set_option maxRecDepth 100000
set_option maxHeartbeats 4000000
/-! The value layer: sum(..) of a generator expression: the rule. -/
namespace Gw
open PySem PySem.Spec PyProof.Rows L2 GxR
def tGenS (P : Addr) (wi : TI) (g : TG) (tt : TT) (te : TE) (vs : List Nat) : TE := fun σ H Q => wi σ H fun J H1 => GxR.TabG H1 P ∧ ∀ H2, Tabbed P H1 H2 →
  ∃ W : Int → Nat → Nat → Hp → Prop, (∃ m, W 0 0 m H2) ∧ ∀ tot, GTurn J g tt te σ vs (W tot) (fun i m y H => ∃ k : Int, y = .int k ∧ ∃ m', m' < m ∧ W (tot + k) (i + 1) m' H) fun H => Q (.int tot) H
section
variable {X : Cx}
theorem new_S {fp : List Addr} {it : Addr} {tn : Nat → Heap → Prop} {J : It} {σ : L2.St} {tg : Expr} {i : Nat} {H : Hp} {s : Shared} {o : Obj} {t' : Nat} (T : Turn X.prog X.w X.K tg J fp it tn) (j : GJ X [] fp tn σ i H s) (hd : ∀ v, o.data ≠ .cell v) (hfr : o.isFreed = false) :
    s.heap.objs.size ∉ fp ∧ (∀ H' : Hp, H' s.heap.objs.size = none → FpOk X [] H' s.heap.objs.size) ∧ GJ X [(s.heap.objs.size, o)] fp tn σ i H { s with heap := s.heap.push o, toks := t' } ∧ Pn [s.heap.objs.size] fp [(s.heap.objs.size, o)] := by
  have hSf : s.heap.objs.size ∉ fp := fun hb => by
    obtain ⟨o, e, _⟩ := T.obj _ _ j.tn _ hb
    exact absurd (Heap.lt_size e) (Nat.lt_irrefl _)
  have kp : ∀ b u, s.heap.get? b = some u → (s.heap.push o).get? b = some u := fun b u e => Heap.get?_push_of_some _ e
  have I1 : L2.Inv X [] σ H { s with heap := s.heap.push o, toks := t' } := j.inv.kept kp
  have hS : ∀ H' : Hp, H' s.heap.objs.size = none → FpOk X [] H' s.heap.objs.size := fun H' hn => j.inv.fpOk (Nat.le_refl _) hn
  obtain ⟨f0, f1, f2, f3, f4, f5⟩ := hS H (j.inv.hok.fresh (Nat.le_refl _))
  refine ⟨hSf, hS, ⟨I1.pins_of fun p hp => ?_, T.keep _ _ _ j.tn fun b hb o e => kp b o e, j.fp⟩, fun b hb => ?_, fun p hp => ?_⟩
  · have : p = (s.heap.objs.size, o) := by simpa using hp
    subst this
    exact ⟨Heap.get?_push_size _ hfr, f0, f1, f2, hd⟩
  · have : b = s.heap.objs.size := by simpa using hb
    subst this
    exact ⟨o, by simp⟩
  · have : p = (s.heap.objs.size, o) := by simpa using hp
    subst this
    exact hSf
theorem pe_genS {c P : Addr} {elt tg iter : Expr} {ifs : List Expr} {scope : Scope} {own : List (Str × Nat)} {gpos p pos : Pos} {wi : TI} {g : TG} {tt : TT} {te : TE} {k : Nat} (hr : Room (k + 1) X.A) (hc : X.calm = true) (hN : X.N.Nodup) (TB : TabB X.base X.mg c P) (hcode : X.env.code = .ref c) (S : GenSc scope) (ok : BlkOk X.N X.env.scope scope own)
    (hgl : Gl X ("sum" : Str)) (hm : X.mg ("sum" : Str) = none) (hi : PI X tg iter wi) (hs : ∀ v, genFold iter X.env v = pure v)
    (hg : ∀ (Ag : Around) (s : Shared) (H : Hp) (C : Addr) (code : Value) (cl : List (Str × Addr)) (fp : List Addr) (pn : List (Addr × Obj)), Room k Ag → PG (genX X Ag s H (genEnv scope cl C code builtinsNs X.env) fp pn) tg g)
    (ht : ∀ (Ag : Around) (s : Shared) (H : Hp) (C : Addr) (code : Value) (cl : List (Str × Addr)) (fp : List Addr) (pn : List (Addr × Obj)), Room k Ag → PTs (genX X Ag s H (genEnv scope cl C code builtinsNs X.env) fp pn) ifs tt)
    (he : ∀ (Ag : Around) (s : Shared) (H : Hp) (C : Addr) (code : Value) (cl : List (Str × Addr)) (fp : List Addr) (pn : List (Addr × Obj)), Room k Ag → PE (genX X Ag s H (genEnv scope cl C code builtinsNs X.env) fp pn) elt te) :
    PE X (.Call (.Name ("sum" : Str) p) [.GeneratorExp elt [⟨tg, iter, ifs, 0⟩] scope gpos] [] pos) (tGenS P wi g tt te (own.map (·.2))) := by
  refine ⟨fun pins s σ H Q I h => ?_⟩
  have hst : starEach [.GeneratorExp elt [⟨tg, iter, ifs, 0⟩] scope gpos] X.env = (false, eval (.GeneratorExp elt [⟨tg, iter, ifs, 0⟩] scope gpos) X.env) :: starEach [] X.env := rfl
  refine wpAny_Call_Name_kw (ld_blt I hgl hm boot_sum ?_)
  refine PyProof.Rows.callWith_builtin1 ?_ hst (by rfl)
  rw [hst]
  show wpAny _ _ (spliced ((false, eval (.GeneratorExp elt [⟨tg, iter, ifs, 0⟩] scope gpos) X.env) :: backTo pos (starEach [] X.env))) _ _ s
  refine Calls.spliced_cons (gen_made hr hc hN TB hcode S ok hi hs I h fun J H1 H2 code it fp tn s4 h5 m a go t5 q tab I4 T st hfp kp hns ha hgo hgen hgd => ?_)
  obtain ⟨W, ⟨m0, w0⟩, turn⟩ := q H2 tab
  refine Calls.spliced_nil ?_
  have G0 := gen_ready (ps := [h5.objs.size]) (m0 := m0) (W := W) (Yd := fun tot i m y H => ∃ k : Int, y = .int k ∧ ∃ m', m' < m ∧ W (tot + k) (i + 1) m' H) (Fin := fun tot H => Q (.int tot) H) (Cor := TotAt h5.objs.size) (iter := iter) (gpos := gpos) (t5 := t5) (code := code) hr hc hN S ok hg ht he I4 T st hfp kp hns ha hgo hgd turn
  have room : X.A.depth < recursionLimit := by have := hr.dp; omega
  refine call_function_tree F.kind_sum F.plain_sum F.entry_sum (F.args_sum1 _) ?_
  unfold Builtin.«sum»
  simp only [List.length_cons, List.length_nil]
  rw [if_neg (by decide)]
  refine wpAny_bind (wpAny_of_eq (show Builtin.Builtins.bindParams "sum" ["start"] 0 { } = pure [none] from rfl) ?_)
  refine wpAny_bind (wpAny_pyIter_gen (hgen _ hgo) ?_)
  refine wpAny_bind (wpAny_mkInt ?_)
  refine wpAny_bind (wpAny_pure ?_)
  simp only [List.forIn_cons, List.forIn_nil]
  refine wpAny_bind (wpAny_bind (wpAny_bind (wpAny_isInstance (T := "int") (b := false) (typeIs_int _ _ _) PySem.sub_int_str ?_)))
  simp only [Bool.false_eq_true, if_false]
  refine wpAny_pure (wpAny_bind (wpAny_bind (wpAny_isInstance (T := "int") (b := false) (typeIs_int _ _ _) PySem.sub_int_bytes ?_)))
  simp only [Bool.false_eq_true, if_false]
  refine wpAny_pure (wpAny_bind (wpAny_bind (wpAny_isInstance (T := "int") (b := false) (typeIs_int _ _ _) PySem.sub_int_bytearray ?_)))
  simp only [Bool.false_eq_true, if_false]
  refine wpAny_pure (wpAny_pure ?_)
  refine wpAny_bind (wpAny_newObj_type ?_)
  obtain ⟨n1, n2, n3, n4⟩ := new_S (X := genX X (genA X.A elt tg iter ifs scope gpos it (genEnv scope (cloFrom X.env.cells scope.names []) s4.heap.objs.size code builtinsNs X.env)) s4 H2 (genEnv scope (cloFrom X.env.cells scope.names []) s4.heap.objs.size code builtinsNs X.env) fp [(a, go)]) (o := totO 0 t5 0) (t' := t5 + 1) T G0.2 (fun v z => by cases z) rfl
  refine wpAny_pure ⟨plainId_quiet F.plain_sum_loop _, sum_loop (X := genX X (genA X.A elt tg iter ifs scope gpos it (genEnv scope (cloFrom X.env.cells scope.names []) s4.heap.objs.size code builtinsNs X.env)) s4 H2 (genEnv scope (cloFrom X.env.cells scope.names []) s4.heap.objs.size code builtinsNs X.env) fp [(a, go)]) (A := X.A) T hr.hd room hgen (List.mem_singleton.mpr rfl) n1 n2 (fun tot i m y H h => h) (fun s' tot t ⟨H', _, I', f⟩ => ⟨.int tot, H', gen_back I4 hfp I', ⟨t, rfl⟩, f⟩) m0 0 H2 _ 0 (.inl rfl) ⟨⟨t5, 0, Heap.get?_push_size _ rfl⟩, _, 0, m0, _, Array.getElem?_push_size .., G0.1, n3, n4, m0, Nat.le_refl _, w0⟩⟩
end
end Gw

set_option Elab.async false
set_option linter.all false
set_option maxRecDepth 100000
set_option maxHeartbeats 4000000
namespace Gw
open PySem L2
section
variable {gi : GI} {G : Glo} {tabs : List Addr} {N : List Str} {sc ts : Scope} {k : Nat} {X : Cx}
theorem runE_sum (elt : E) (t : T) (it : I) (c : E) (ρ : Env) : runE G (.gen .sum elt t it c) ρ = (runI G it ρ).bind fun s => if wipable s.2.1 t.slots then
      (loopC (turnC (setT t) t.slots (runC G c) (runL G elt)) s.1 [] (wipe s.2.1 t.slots)).bind fun z => (Res.of (dInts z.1)).bind fun ns => (back s.2.2 z.2).bind fun ρ' => .ok (.val (.int ns.sum), ρ') else .stuck := by
  simp only [runE]; rfl
theorem loopC_preS {turn : D → Env → Res (List D × Env)} : ∀ {ds acc z : List D} {ρ ρ' : Env}, loopC turn ds acc ρ = .ok (z, ρ') → ∃ w, z = acc ++ w
  | [], acc, z, ρ, ρ', h => by simp only [loopC] at h; cases h; exact ⟨[], by simp⟩
  | d :: ds, acc, z, ρ, ρ', h => by
    simp only [loopC] at h
    obtain ⟨p, _, h⟩ := Res.bind_ok h
    split at h
    · obtain ⟨w, e⟩ := loopC_preS h
      exact ⟨p.1 ++ w, by rw [e, List.append_assoc]⟩
    · cases h
theorem dInts_app : ∀ {a b : List D} {ns : List Int}, dInts (a ++ b) = some ns → ∃ na nb, dInts a = some na ∧ dInts b = some nb ∧ ns = na ++ nb
  | [], b, ns, h => ⟨[], ns, rfl, h, rfl⟩
  | d :: a, b, ns, h => by
    cases d with
    | int i =>
      simp only [List.cons_append, dInts] at h
      cases e : dInts (a ++ b) with
      | none => rw [e] at h; cases h
      | some m =>
        rw [e] at h
        cases h
        obtain ⟨na, nb, h1, h2, h3⟩ := dInts_app e
        exact ⟨i :: na, nb, by simp only [dInts, h1]; rfl, h2, by rw [h3]; rfl⟩
    | _ => simp [dInts] at h
theorem genS_read {elt : E} {t : T} {it : I} {c : E} {B : Bs} {P : Addr} (hP : P ∈ B.tabs) {σ : L2.St} {H : Hp} {Q : VK} (h : tE X.K B (runE G (.gen .sum elt t it c)) σ H Q) :
    tGenS P (iD X.K B (runI G it)) (gD X.K B t) (tCnd X.K B G c) (tE X.K B (runE G elt)) t.slots σ H Q := by
  obtain ⟨ρ, tt, vs, r, ρ', hR, hl, hF, hQ⟩ := h
  rw [runE_sum] at hF
  obtain ⟨⟨ds, ρ1, mv⟩, g1, hF⟩ := Res.bind_ok hF
  by_cases hw : wipable ρ1 t.slots = true
  · simp only [hw, if_true] at hF
    obtain ⟨⟨accF, ρF⟩, g2, hF⟩ := Res.bind_ok hF
    obtain ⟨nsF, g9, hF⟩ := Res.bind_ok hF
    have g9 := Res.of_ok g9
    obtain ⟨ρb, g3, hF⟩ := Res.bind_ok hF
    cases hF
    refine ⟨ρ, tt, vs, ds, ρ1, mv, hR, hl, g1, fun J H1 s v hH R1 wk => ⟨R1.tab P hP, fun H2 tab => ?_⟩⟩
    have R1 := R1.grow (H' := H2) ⟨fun a o e n => by
        have ne : a ≠ P := fun z => by
          obtain ⟨ps, q, _⟩ := R1.tab P hP
          rw [z, q] at e
          cases e
          exact n ps rfl
        rw [tab.2 a ne]; exact e, fun a ps e => by
        by_cases z : a = P
        · obtain ⟨ps', q, _⟩ := tab.1
          exact ⟨ps', by rw [z]; exact q⟩
        · exact ⟨ps, by rw [tab.2 a z]; exact e⟩, fun a ha q => by
        by_cases z : a = P
        · rw [z]; exact tab.1
        · obtain ⟨ps, e, tr⟩ := q
          exact ⟨ps, by rw [tab.2 a z]; exact e, tr⟩⟩
    have hlt : tt.length = vs.length := by have a := hR.len; simp at a; omega
    have l1 : ρ1.length = σ.length := by have a := hR.len; have b := R1.len; simp at a b; omega
    have R1a : R X.K B (ρ1 ++ (tt ++ [s])) (σ ++ (vs ++ [v])) H2 := by simpa using R1
    have hra := wipable_ra R1a hw
    have R2 := R1a.wiped (sl := t.slots) (σ' := L2.wipe σ t.slots) l1 (L2.wipe_length _ _) (fun j hj => L2.wipe_out hj) fun j hj => (hra j hj).1
    have fin : ∀ {He : Hp}, ρF.length = σ.length → (∀ j ∈ t.slots, ρF[j]? = some .no) → R X.K B (ρF ++ tt ++ [s]) (L2.wipe σ t.slots ++ vs ++ [v]) He → Q (.int nsF.sum) He := fun {He} le hno R5 => by
      have R6 : R X.K B (ρF ++ tt ++ [s]) (σ ++ vs ++ [v]) He := by
        refine R5.unwipe (by simp [L2.wipe_length]) fun j => ?_
        by_cases hj : j ∈ t.slots
        · right
          exact getL (getL (hno j hj))
        · left
          simp only [List.append_assoc]
          by_cases hz : j < σ.length
          · rw [List.getElem?_append_left hz, List.getElem?_append_left (by rw [L2.wipe_length]; exact hz), L2.wipe_out hj]
          · rw [List.getElem?_append_right (l₁ := σ) (by omega), List.getElem?_append_right (l₁ := L2.wipe σ t.slots) (by rw [L2.wipe_length]; omega), L2.wipe_length]
      have R7 := R6.home hH g3 le
      exact hQ _ He (R7.push_val (.int nsF.sum))
    refine ⟨fun tot i m H => m = ds.length - i ∧ i ≤ ds.length ∧ ∃ (ρi : Env) (acc : List D) (na : List Int), ρi.length = σ.length ∧ (∀ j ∈ t.slots, ρi[j]? = some .no) ∧ R X.K B (ρi ++ tt ++ [s]) (L2.wipe σ t.slots ++ vs ++ [v]) H ∧ dInts acc = some na ∧ tot = na.sum ∧ loopC (turnC (setT t) t.slots (runC G c) (runL G elt)) (ds.drop i) acc ρi = .ok (accF, ρF), ⟨ds.length, rfl, Nat.zero_le _, wipe ρ1 t.slots, [], [], by simp [wipe_len, l1], fun j hj => wipe_in hj (hra j hj).2, by simpa using R2, rfl, rfl, g2⟩, fun tot => ?_⟩
    rintro i m H5 ⟨rfl, hi, ρi, acc, na, li, hno, R5, hna, htot, gl⟩
    have l5 : (ρi ++ tt).length = (L2.wipe σ t.slots ++ vs).length := by simp [li, L2.wipe_length, hlt]
    by_cases hlt2 : i < ds.length
    · right
      obtain ⟨d, hd⟩ : ∃ d, ds[i]? = some d := ⟨ds[i], List.getElem?_eq_getElem hlt2⟩
      have hdr : ds.drop i = d :: ds.drop (i + 1) := by
        rw [List.drop_eq_getElem_cons hlt2]
        rw [List.getElem?_eq_getElem hlt2] at hd
        cases hd; rfl
      rw [hdr] at gl
      simp only [loopC] at gl
      obtain ⟨⟨ys, ρn⟩, g4, gl⟩ := Res.bind_ok gl
      by_cases hz : lineOk (acc.length + ys.length) = true
      rotate_left
      · simp only [hz] at gl; cases gl
      simp only [hz, if_true] at gl
      simp only [turnC] at g4
      obtain ⟨ρ2, g5, g4⟩ := Res.bind_ok g4
      have g5 := Res.of_ok g5
      obtain ⟨⟨b, ρ3⟩, g6, g4⟩ := Res.bind_ok g4
      refine ⟨(wk B).go i _ _ H5 hlt2 l5 R5, by omega, fun H' => ∃ (ρi : Env) (acc : List D) (na : List Int), ρi.length = σ.length ∧ (∀ j ∈ t.slots, ρi[j]? = some .no) ∧ R X.K B (ρi ++ tt ++ [s]) (L2.wipe σ t.slots ++ vs ++ [v]) H' ∧ dInts acc = some na ∧ tot = na.sum ∧ loopC (turnC (setT t) t.slots (runC G c) (runL G elt)) (ds.drop (i + 1)) acc ρi = .ok (accF, ρF), fun H' ⟨ρi', a', n', q1, q2, q3, q4, q5, q6⟩ => ⟨ds.length - (i + 1), by omega, rfl, hlt2, ρi', a', n', q1, q2, q3, q4, q5, q6⟩, fun x H' y => ?_⟩
      have R6 := (wk B).yld i _ _ H5 x H' d hd l5 R5 y
      refine ⟨ρi, tt ++ [s], vs ++ [v], d, ρ2, by simpa using R6, by simp [li, L2.wipe_length], g5, fun σ2 H2 s1 s2 R7 => ?_⟩
      rw [L2.wipe_length] at s1
      have s3 : ∀ j, j ∉ t.slots → σ2[j]? = σ[j]? := fun j hj => by rw [s2 j hj, L2.wipe_out hj]
      refine ⟨lwipe_eq s1 s3, ?_⟩
      have l7 : ρ2.length = σ2.length := by have a := R7.len; simp at a; omega
      refine ⟨ρ2, tt ++ [s], vs ++ [v], b, ρ3, R7, l7, g6, fun H3 R8 => ?_⟩
      have l8 : ρ3.length = σ2.length := by have a := R8.len; simp at a; omega
      have done : ∀ {ρe : Env} {He : Hp}, ρe.length = σ2.length → R X.K B (ρe ++ tt ++ [s]) (σ2 ++ vs ++ [v]) He → R X.K B (wipe ρe t.slots ++ tt ++ [s]) (L2.wipe σ t.slots ++ vs ++ [v]) He := fun {ρe He} le Re => by
        have q : R X.K B (ρe ++ (tt ++ [s])) (σ2 ++ (vs ++ [v])) He := by simpa using Re
        have q2 := q.wiped (sl := t.slots) (σ' := L2.wipe σ t.slots) le (by rw [L2.wipe_length, s1]) (fun j hj => by rw [L2.wipe_out hj, s3 j hj]) fun j hj => (hra j hj).1
        simpa using q2
      have R8' : R X.K B (ρ3 ++ tt ++ [s]) (σ2 ++ vs ++ [v]) H3 := by simpa using R8
      cases b with
      | false =>
        simp only [Bool.false_eq_true, if_false] at g4 ⊢
        cases g4
        rw [List.append_nil] at gl
        exact ⟨wipe ρ3 t.slots, acc, na, by rw [wipe_len]; omega, fun j hj => wipe_in hj (by have := (hra j hj).2; omega), done l8 R8', hna, htot, gl⟩
      | true =>
        simp only [if_true] at g4 ⊢
        obtain ⟨⟨ys', ρ5⟩, g7, g4⟩ := Res.bind_ok g4
        cases g4
        unfold runL at g7
        obtain ⟨⟨re, ρ4⟩, g8, g7⟩ := Res.bind_ok g7
        cases g7
        refine ⟨ρ3, tt ++ [s], vs ++ [v], re, ρ4, by simpa using R8, l8, g8, fun y H4 R9 => ?_⟩
        obtain ⟨q0, q1⟩ := R9.take1
        have l9 : ρ4.length = σ2.length := by have a := q0.len; simp at a; omega
        have q0' : R X.K B (ρ4 ++ tt ++ [s]) (σ2 ++ vs ++ [v]) H4 := by simpa using q0
        have R10 := done l9 q0'
        have n10 : ∀ j ∈ t.slots, (wipe ρ4 t.slots)[j]? = some .no := fun j hj => wipe_in hj (by have := (hra j hj).2; omega)
        simp only at gl
        obtain ⟨zz, ez⟩ := loopC_preS gl
        rw [ez] at g9
        obtain ⟨n1, n2, d1, d2, _⟩ := dInts_app g9
        obtain ⟨n3, n4, d3, d4, d5⟩ := dInts_app d1
        rw [hna] at d3
        cases d3
        cases ed : re.d with
        | int kk =>
          rw [ed] at gl q1 d1
          refine ⟨kk, q1.intV, ds.length - (i + 1), by omega, rfl, hlt2, _, acc ++ [.int kk], na ++ [kk], by rw [wipe_len]; omega, n10, R10, ?_, by rw [htot]; simp, gl⟩
          rw [d1, d5]
          rw [ed] at d4
          cases d4
          rfl
        | _ => rw [ed] at d4; cases d4
    · left
      have e : i = ds.length := by omega
      subst e
      rw [List.drop_length] at gl
      simp only [loopC] at gl
      cases gl
      rw [hna] at g9
      cases g9
      rw [htot]
      exact ⟨(wk B).stop _ _ H5 l5 R5, fin li hno R5⟩
  · simp only [hw] at hF; cases hF
theorem snd_genS (o : XOk gi G tabs N sc ts k X) {elt c : E} {t : T} {it : I} {x : Expr} (h : okE gi N sc (.gen .sum elt t it c) x = true) (ihi : IHI gi G tabs N it) (ihc : IH gi.off G tabs N c) (ihe : IH gi.off G tabs N elt) : SE tabs X x (runE G (.gen .sum elt t it c)) := fun B hB => by
  simp only [okE] at h
  split at h
  · rename_i f y e
    obtain ⟨p, pos, rfl⟩ := asCall_some e
    simp only [Bool.and_eq_true, decide_eq_true_eq] at h
    obtain ⟨⟨⟨hg, rfl⟩, hgl⟩, h⟩ := h
    cases e2 : asGen y with
    | none => rw [e2] at h; cases h
    | some z =>
      rw [e2] at h
      simp only [Bool.and_eq_true, Option.isNone_iff_eq_none] at h
      obtain ⟨gpos, rfl⟩ := asGen_some e2
      obtain ⟨⟨⟨⟨⟨h1, h0⟩, h2⟩, h3⟩, h4⟩, h5⟩ := h
      unfold genC at h1
      simp only [Bool.and_eq_true, Bool.not_eq_true'] at h1
      obtain ⟨⟨⟨h1, hco⟩, hnc⟩, hdot⟩ := h1
      obtain ⟨cc, P, ecode, TB, hP⟩ := o.code hg
      have S : GenSc z.scope := ⟨hco, noCell_iff hnc, by
        unfold dotLoc at hdot
        split at hdot
        · assumption
        · cases hdot⟩
      have ob := fun Ag s H C code cl fp pn (hr : Room k Ag) => o.gen hnc hr s H C code cl fp pn
      have q := pe_genS (X := X) (p := p) (pos := pos) (gpos := gpos) (own := ownOf N t.slots) (tg := z.tg) (elt := z.elt) (te := tE X.K B (runE G elt)) (tt := tCnd X.K B G c) (g := gD X.K B t) (o.roomG hg) o.calm (by rw [o.hN]; exact o.nd) TB ecode S (by rw [o.hN, o.sc]; exact blkOk_by h1) (o.gl hgl) (o.blt _ (by decide)) (ihi o z.tg z.iter h2 B hB) (notsetG (okI_set h2) h0 _)
        (fun Ag s H C code cl fp pn hr => pg_ok (ob Ag s H C code cl fp pn hr) B t z.tg h3) (fun Ag s H C code cl fp pn hr => snd_ifs h4 (ihc.st (ob Ag s H C code cl fp pn hr)) B hB) (fun Ag s H C code cl fp pn hr => ihe.se (ob Ag s H C code cl fp pn hr) z.elt h5 B hB)
      rw [own_slots] at q
      exact q.imp fun σ H Q hq => genS_read (by rw [hB]; exact hP) hq
  · cases h
theorem snd_gen (o : XOk gi G tabs N sc ts k X) {gk : Gk} {elt c : E} {t : T} {it : I} {x : Expr} (h : okE gi N sc (.gen gk elt t it c) x = true) (ihi : IHI gi G tabs N it) (ihc : IH gi.off G tabs N c) (ihe : IH gi.off G tabs N elt) : SE tabs X x (runE G (.gen gk elt t it c)) := by
  cases gk with
  | sum => exact snd_genS o h ihi ihc ihe
  | all => exact snd_genB o (by intro z; cases z) h ihi ihc ihe
  | any => exact snd_genB o (by intro z; cases z) h ihi ihc ihe
end
end Gw

set_option Elab.async false
set_option linter.all false
set_option maxRecDepth 100000
set_option maxHeartbeats 4000000
/-! The value layer: dict comprehensions, displays of dicts, list(range(n)). -/
namespace Gw
open PySem L2
section
variable {gi : GI} {G : Glo} {tabs : List Addr} {N : List Str} {sc ts : Scope} {k : Nat} {X : Cx}
theorem loop_readD {B : Bs} {J : It} {ds : List D} {s : Sl} {v : Option V} {σ VV : List (Option V)} {t : T} {c : E} {TT : List (Ky × D) → List Sl} {sl : List Nat} {F : Env → Res ((D × D) × Env)} {accF acc0 : List (Ky × D)} {ρF ρ0 : Env} {H1 : Hp} {bd : L2.St → Hp → (Hp → Prop) → Prop} {Fin : Hp → Prop}
    (hT : ∀ acc, (TT acc).length = VV.length) (wk : ∀ B', Wk X.K B' J ds s v) (hra : ∀ j ∈ sl, B.ra j = none ∧ j < σ.length) (l0 : ρ0.length = σ.length) (R0 : R X.K B (wipe ρ0 sl ++ TT acc0 ++ [s]) (L2.wipe σ sl ++ VV ++ [v]) H1)
    (g2 : loopD (turnD (setT t) sl (runC G c) F) ds acc0 (wipe ρ0 sl) = .ok (accF, ρF)) (hsl : ∀ j ∈ t.slots, j ∈ sl)
    (hbd : ∀ (ρ3 ρ5 : Env) (acc : List (Ky × D)) (yy : D × D) (ky : Ky) (σ2 : L2.St) (H3 : Hp) (Nx : Hp → Prop), σ2.length = σ.length → ρ3.length = σ2.length → R X.K B (ρ3 ++ TT acc ++ [s]) (σ2 ++ VV ++ [v]) H3 → F ρ3 = .ok (yy, ρ5) → kyOf yy.1 = some ky → lineOk (acc.length + 1) = true →
      (∀ H', R X.K B (ρ5 ++ TT (storeK acc ky yy.2) ++ [s]) (σ2 ++ VV ++ [v]) H' → Nx H') → bd σ2 H3 Nx)
    (hfin : ∀ H5, ρF.length = σ.length → R X.K B (ρF ++ TT accF ++ [s]) (σ ++ VV ++ [v]) H5 → Fin H5) :
    ∃ W : Nat → Nat → Hp → Prop, (∃ m, W 0 m H1) ∧ ∀ i m H, W i m H → (J.stop i H ∧ Fin H) ∨ (J.go i H ∧ ∃ Nx : Hp → Prop, (∀ H', Nx H' → ∃ m', m' < m ∧ W (i + 1) m' H') ∧
      ∀ x H', J.yld i H x H' → gD X.K B t x (L2.wipe σ sl) H' fun σ2 H2 => L2.wipe σ2 sl = L2.wipe σ sl ∧ tCnd X.K B G c σ2 H2 fun b H3 => if b = true then bd σ2 H3 Nx else Nx H3) := by
  refine ⟨fun i m H => m = ds.length - i ∧ i ≤ ds.length ∧ ∃ (ρi : Env) (acc : List (Ky × D)), ρi.length = σ.length ∧ (∀ j ∈ sl, ρi[j]? = some .no) ∧
      R X.K B (ρi ++ TT acc ++ [s]) (L2.wipe σ sl ++ VV ++ [v]) H ∧ loopD (turnD (setT t) sl (runC G c) F) (ds.drop i) acc ρi = .ok (accF, ρF), ⟨ds.length, rfl, Nat.zero_le _, wipe ρ0 sl, acc0, by simp [wipe_len, l0], fun j hj => wipe_in hj (by have := (hra j hj).2; omega), R0, g2⟩, ?_⟩
  rintro i m H5 ⟨rfl, hi, ρi, acc, li, hno, R5, gl⟩
  have l5 : (ρi ++ TT acc).length = (L2.wipe σ sl ++ VV).length := by simp [li, L2.wipe_length, hT]
  by_cases hlt2 : i < ds.length
  · right
    obtain ⟨d, hd⟩ : ∃ d, ds[i]? = some d := ⟨ds[i], List.getElem?_eq_getElem hlt2⟩
    have hdr : ds.drop i = d :: ds.drop (i + 1) := by
      rw [List.drop_eq_getElem_cons hlt2]
      rw [List.getElem?_eq_getElem hlt2] at hd
      cases hd; rfl
    rw [hdr] at gl
    simp only [loopD] at gl
    obtain ⟨⟨ys, ρn⟩, g4, gl⟩ := Res.bind_ok gl
    simp only [turnD] at g4
    obtain ⟨ρ2, g5, g4⟩ := Res.bind_ok g4
    have g5 := Res.of_ok g5
    obtain ⟨⟨b, ρ3⟩, g6, g4⟩ := Res.bind_ok g4
    refine ⟨(wk B).go i _ _ H5 hlt2 l5 R5, fun H' => ∃ (ρi : Env) (acc : List (Ky × D)), ρi.length = σ.length ∧ (∀ j ∈ sl, ρi[j]? = some .no) ∧ R X.K B (ρi ++ TT acc ++ [s]) (L2.wipe σ sl ++ VV ++ [v]) H' ∧ loopD (turnD (setT t) sl (runC G c) F) (ds.drop (i + 1)) acc ρi = .ok (accF, ρF), fun H' ⟨ρi', acc', q1, q2, q3, q4⟩ => ⟨ds.length - (i + 1), by omega, rfl, hlt2, ρi', acc', q1, q2, q3, q4⟩, fun x H' y => ?_⟩
    have R6 := (wk B).yld i _ _ H5 x H' d hd l5 R5 y
    refine ⟨ρi, TT acc ++ [s], VV ++ [v], d, ρ2, by simpa using R6, by simp [li, L2.wipe_length], g5, fun σ2 H2 s1 s2 R7 => ?_⟩
    rw [L2.wipe_length] at s1
    have s3 : ∀ j, j ∉ sl → σ2[j]? = σ[j]? := fun j hj => by rw [s2 j (fun m => hj (hsl j m)), L2.wipe_out hj]
    refine ⟨lwipe_eq s1 s3, ?_⟩
    have l7 : ρ2.length = σ2.length := by have a := R7.len; have b := hT acc; simp at a; omega
    refine ⟨ρ2, TT acc ++ [s], VV ++ [v], b, ρ3, R7, l7, g6, fun H3 R8 => ?_⟩
    have l8 : ρ3.length = σ2.length := by have a := R8.len; have b := hT acc; simp at a; omega
    have fin : ∀ {ρe : Env} {acc' : List (Ky × D)} {He : Hp}, ρe.length = σ2.length → R X.K B (ρe ++ TT acc' ++ [s]) (σ2 ++ VV ++ [v]) He → R X.K B (wipe ρe sl ++ TT acc' ++ [s]) (L2.wipe σ sl ++ VV ++ [v]) He := fun {ρe acc' He} le Re => by
      have q : R X.K B (ρe ++ (TT acc' ++ [s])) (σ2 ++ (VV ++ [v])) He := by simpa using Re
      have q2 := q.wiped (sl := sl) (σ' := L2.wipe σ sl) le (by rw [L2.wipe_length, s1]) (fun j hj => by rw [L2.wipe_out hj, s3 j hj]) fun j hj => (hra j hj).1
      simpa using q2
    have R8' : R X.K B (ρ3 ++ TT acc ++ [s]) (σ2 ++ VV ++ [v]) H3 := by simpa using R8
    cases b with
    | false =>
      simp only [Bool.false_eq_true, if_false] at g4 ⊢
      cases g4
      exact ⟨wipe ρ3 sl, acc, by rw [wipe_len]; omega, fun j hj => wipe_in hj (by have := (hra j hj).2; omega), fin l8 R8', gl⟩
    | true =>
      simp only [if_true] at g4 ⊢
      obtain ⟨⟨ys', ρ5⟩, g7, g4⟩ := Res.bind_ok g4
      obtain ⟨ky, g8, g4⟩ := Res.bind_ok g4
      have g8 := Res.of_ok g8
      by_cases hz : lineOk (acc.length + 1) = true
      · simp only [hz, if_true] at g4
        cases g4
        refine hbd ρ3 ρ5 acc ys' ky σ2 H3 _ s1 l8 R8' g7 g8 hz fun H' R10 => ?_
        have l9 : ρ5.length = σ2.length := by have a := R10.len; have b := hT (storeK acc ky ys'.2); simp at a; omega
        exact ⟨wipe ρ5 sl, _, by rw [wipe_len]; omega, fun j hj => wipe_in hj (by have := (hra j hj).2; omega), fin l9 R10, gl⟩
      · simp only [hz] at g4; cases g4
  · left
    have e : i = ds.length := by omega
    subst e
    rw [List.drop_length] at gl
    simp only [loopD] at gl
    cases gl
    refine ⟨(wk B).stop _ _ H5 l5 R5, ?_⟩
    have R6 : R X.K B (ρF ++ TT accF ++ [s]) (σ ++ VV ++ [v]) H5 := by
      refine R5.unwipe (by simp [L2.wipe_length]) fun j => ?_
      by_cases hj : j ∈ sl
      · right
        exact getL (getL (hno j hj))
      · left
        simp only [List.append_assoc]
        by_cases hz : j < σ.length
        · rw [List.getElem?_append_left hz, List.getElem?_append_left (by rw [L2.wipe_length]; exact hz), L2.wipe_out hj]
        · rw [List.getElem?_append_right (l₁ := σ) (by omega), List.getElem?_append_right (l₁ := L2.wipe σ sl) (by rw [L2.wipe_length]; omega), L2.wipe_length]
    exact hfin H5 li R6
/-- key and value -/
def runKV (G : Glo) (kx vx : E) (ρ : Env) : Res ((D × D) × Env) := (runE G kx ρ).bind fun q => (runE G vx q.2).bind fun w => .ok ((q.1.d, w.1.d), w.2)
theorem runE_dc (kx vx : E) (t : T) (it : I) (c : E) (ρ : Env) : runE G (.dc kx vx t it c) ρ = (runI G it ρ).bind fun s => if wipable s.2.1 t.slots then
      (loopD (turnD (setT t) t.slots (runC G c) (runKV G kx vx)) s.1 [] (wipe s.2.1 t.slots)).bind fun z => (Gw.back s.2.2 z.2).bind fun ρ' => .ok (.own (.dct z.1), ρ') else .stuck := by
  simp only [runE]; rfl
theorem dc_start {B : Bs} {σ vs : List (Option V)} {ρ1 : Env} {tt : List Sl} {s : Sl} {v : Option V} {H1 : Hp} {sl : List Nat} {Da : Addr} (R1 : R X.K B (ρ1 ++ tt ++ [s]) (σ ++ vs ++ [v]) H1) (l1 : ρ1.length = σ.length) (hs : ∀ d, s ≠ .ref d) (hw : wipable ρ1 sl = true) (hD : H1 Da = none) :
    (∀ j ∈ sl, B.ra j = none ∧ j < σ.length) ∧ R X.K B (wipe ρ1 sl ++ (tt ++ [.own (.dct [])]) ++ [s]) (L2.wipe σ sl ++ (vs ++ [some (.ref Da)]) ++ [v]) (upd H1 Da (.dK [])) := by
  have R1a : R X.K B (ρ1 ++ (tt ++ [s])) (σ ++ (vs ++ [v])) H1 := by simpa using R1
  have hlt : tt.length = vs.length := by have a := R1.len; simp at a; omega
  have hra := wipable_ra R1a hw
  have R2 : R X.K B (wipe ρ1 sl ++ (tt ++ [s])) (L2.wipe σ sl ++ (vs ++ [v])) H1 := R1a.wiped l1 (L2.wipe_length _ _) (fun j hj => L2.wipe_out hj) fun j hj => (hra j hj).1
  have R3 : R X.K B ((wipe ρ1 sl ++ tt) ++ [s] ++ [.own (.dct [])]) ((L2.wipe σ sl ++ vs) ++ [v] ++ [some (.ref Da)]) (upd H1 Da (.dK [])) := by
    have q := R2.push_own (d := .dct []) hD (Grow.new hD) ⟨[], upd_same, .nil⟩
    simpa using q
  have lw : (wipe ρ1 sl ++ tt).length = (L2.wipe σ sl ++ vs).length := by simp [wipe_len, L2.wipe_length, l1, hlt]
  have R4 := R3.swap lw hs (fun d e => by cases e)
  exact ⟨fun j hj => ⟨(hra j hj).1, by have := (hra j hj).2; omega⟩, by simpa using R4⟩
/-- a pair into the dict at Da -/
theorem put_read {B : Bs} {ρ5 : Env} {acc : List (Ky × D)} {kd vd : Rv} {ky : Ky} {tt uu : List Sl} {σ2 vs ws : List (Option V)} {Da : Addr} {H4 : Hp} {x y : V} {Nx : Hp → Prop} (hlt : tt.length = vs.length) (l9 : ρ5.length = σ2.length)
    (R9 : R X.K B (ρ5 ++ (tt ++ [.own (.dct acc)] ++ uu) ++ [kd.sl] ++ [vd.sl]) (σ2 ++ (vs ++ [some (.ref Da)] ++ ws) ++ [some x] ++ [some y]) H4) (hk : kyOf kd.d = some ky) (hz : acc.length + 1 ≤ sizeLine)
    (hN : ∀ H', R X.K B (ρ5 ++ (tt ++ [.own (.dct (storeK acc ky vd.d))] ++ uu)) (σ2 ++ (vs ++ [some (.ref Da)] ++ ws)) H' → Nx H') :
    ∃ kvs k, x = kV k ∧ H4 Da = some (.dK kvs) ∧ kvs.length < sizeLine ∧ Nx (upd H4 Da (.dK (putK kvs k y))) := by
  obtain ⟨q0, q1, q2⟩ := R9.take2
  have gi1 : (ρ5 ++ (tt ++ [Sl.own (.dct acc)] ++ uu))[(ρ5 ++ tt).length]? = some (.own (.dct acc)) := by
    rw [show ρ5 ++ (tt ++ [Sl.own (.dct acc)] ++ uu) = (ρ5 ++ tt) ++ [Sl.own (.dct acc)] ++ uu by simp]
    exact getL (getEnd _ _)
  have gv1 : (σ2 ++ (vs ++ [some (V.ref Da)] ++ ws))[(ρ5 ++ tt).length]? = some (some (.ref Da)) := by
    rw [show σ2 ++ (vs ++ [some (V.ref Da)] ++ ws) = (σ2 ++ vs) ++ [some (V.ref Da)] ++ ws by simp, show (ρ5 ++ tt).length = (σ2 ++ vs).length by simp [l9, hlt]]
    exact getL (getEnd _ _)
  obtain ⟨a', k1, k2, _⟩ := q0.own _ _ gi1
  rw [gv1] at k1; cases k1
  obtain ⟨xs, k3, k4⟩ := k2
  obtain ⟨kk, e1, e2⟩ := kyOf_kK hk
  refine ⟨xs, kk, e2 q1, k3, by rw [k4.len]; omega, ?_⟩
  have ma : Mt B.Z (ρ5 ++ (tt ++ [Sl.own (.dct acc)] ++ uu)) (σ2 ++ (vs ++ [some (V.ref Da)] ++ ws)) Da := .inr ⟨_, _, gi1, trivial, gv1⟩
  have stay : Stay (Mt B.Z (ρ5 ++ (tt ++ [Sl.own (.dct acc)] ++ uu)) (σ2 ++ (vs ++ [some (V.ref Da)] ++ ws))) H4 (upd H4 Da (.dK (putK xs kk y))) := fun b o hb n _ => by
    have ne : b ≠ Da := fun e => n (by rw [e]; exact ma)
    rw [upd_ne ne]; exact hb
  have R10 := q0.mutate (s := .own (.dct acc)) (s' := .own (.dct (storeK acc ky vd.d))) (d' := .dct (storeK acc ky vd.d)) (o' := .dK (putK xs kk y)) gi1 (.inl ⟨rfl, rfl⟩) gv1
    ⟨putK xs kk y, upd_same, (k4.mono stay fun a m => .inl m).put e1 (q2.mono stay fun a m => .inl m)⟩
  rw [set_top] at R10
  exact hN _ R10
theorem dc_read {kx vx : E} {t : T} {it : I} {c : E} {B : Bs} {σ : L2.St} {H : Hp} {Q : VK} (h : tE X.K B (runE G (.dc kx vx t it c)) σ H Q) :
    tDc (iD X.K B (runI G it)) (gD X.K B t) (tCnd X.K B G c) (tE X.K B (runE G kx)) (tE X.K B (runE G vx)) t.slots σ H Q := by
  obtain ⟨ρ, tt, vs, r, ρ', hR, hl, hF, hQ⟩ := h
  rw [runE_dc] at hF
  obtain ⟨⟨ds, ρ1, mv⟩, g1, hF⟩ := Res.bind_ok hF
  by_cases hw : wipable ρ1 t.slots = true
  · simp only [hw, if_true] at hF
    obtain ⟨⟨accF, ρF⟩, g2, hF⟩ := Res.bind_ok hF
    obtain ⟨ρb, g3, hF⟩ := Res.bind_ok hF
    cases hF
    refine ⟨ρ, tt, vs, ds, ρ1, mv, hR, hl, g1, fun J H1 s v hH R1 wk Da hD => ?_⟩
    have hlt : tt.length = vs.length := by have a := hR.len; simp at a; omega
    have l1 : ρ1.length = σ.length := by have a := hR.len; have b := R1.len; simp at a b; omega
    obtain ⟨hra, R4⟩ := dc_start R1 l1 hH.noref hw hD
    refine loop_readD (TT := fun acc => tt ++ [.own (.dct acc)]) (VV := vs ++ [some (.ref Da)]) (bd := fun σ2 H3 Nx => tE X.K B (runE G kx) σ2 H3 fun y H4 => tE X.K B (runE G vx) σ2 H4 fun z H5 => ∃ kvs k, y = kV k ∧ H5 Da = some (.dK kvs) ∧ kvs.length < sizeLine ∧ Nx (upd H5 Da (.dK (putK kvs k z)))) (by simp [hlt]) wk hra l1 R4 g2 (fun _ h => h) (fun ρ3 ρ5 acc yy ky σ2 H3 Nx s1 l8 R8 g7 g8 hz hN => ?_) fun H5 l5 R5 => ?_
    · unfold runKV at g7
      obtain ⟨⟨rk, ρ4⟩, g9, g7⟩ := Res.bind_ok g7
      obtain ⟨⟨rv, ρ6⟩, g10, g7⟩ := Res.bind_ok g7
      cases g7
      refine ⟨ρ3, tt ++ [.own (.dct acc)] ++ [s], vs ++ [some (.ref Da)] ++ [v], rk, ρ4, by simpa using R8, l8, g9, fun x H4 R9 => ?_⟩
      have l9 : ρ4.length = σ2.length := by have a := R9.len; have b := R8.len; simp at a b; omega
      refine ⟨ρ4, (tt ++ [.own (.dct acc)] ++ [s]) ++ [rk.sl], (vs ++ [some (.ref Da)] ++ [v]) ++ [some x], rv, ρ6, by simpa using R9, l9, g10, fun y H5 R10 => ?_⟩
      have l10 : ρ6.length = σ2.length := by have a := R10.len; have b := R9.len; simp at a b; omega
      have R10' : R X.K B (ρ6 ++ (tt ++ [.own (.dct acc)] ++ [s]) ++ [rk.sl] ++ [rv.sl]) (σ2 ++ (vs ++ [some (.ref Da)] ++ [v]) ++ [some x] ++ [some y]) H5 := by simpa using R10
      exact put_read hlt l10 R10' g8 (lineOk_iff hz) fun H' R' => hN H' (by simpa using R')
    · have R8 := R5.home hH g3 l5
      refine hQ _ H5 ?_
      show R X.K B (ρ' ++ tt ++ [Sl.own (.dct accF)]) _ _
      simpa using R8
  · simp only [hw] at hF; cases hF
theorem snd_dc (o : XOk gi G tabs N sc ts k X) {kx vx c : E} {t : T} {it : I} {x : Expr} (h : okE gi N sc (.dc kx vx t it c) x = true) (ihi : IHI gi G tabs N it) (ihc : IH gi G tabs N c) (ihk : IH gi G tabs N kx) (ihe : IH gi G tabs N vx) : SE tabs X x (runE G (.dc kx vx t it c)) := fun B hB => by
  simp only [okE] at h
  cases e : asDC x with
  | none => rw [e] at h; cases h
  | some z =>
    rw [e] at h
    simp only [Bool.and_eq_true] at h
    obtain ⟨pos, rfl⟩ := asDC_some e
    obtain ⟨⟨⟨⟨⟨h1, h2⟩, h3⟩, h4⟩, h5⟩, h6⟩ := h
    have ob := fun s H C cl fp => o.blk z.scope s H C cl fp
    have q := pe_dc (X := X) (pos := pos) (own := ownOf N t.slots) (tg := z.tg) (kx := z.kx) (vx := z.vx) (tk := tE X.K B (runE G kx)) (tv := tE X.K B (runE G vx)) (tt := tCnd X.K B G c) (g := gD X.K B t) o.calm (by rw [o.hN]; exact o.nd) (ihi o z.tg z.iter h2 B hB) (by rw [o.hN, o.sc]; exact blkOk_by h1) (fun s H C cl fp => pg_ok (ob s H C cl fp) B t z.tg h3) (fun s H C cl fp => snd_ifs h4 (ihc.st (ob s H C cl fp)) B hB) (fun s H C cl fp => ihk.se (ob s H C cl fp) z.kx h5 B hB) (fun s H C cl fp => ihe.se (ob s H C cl fp) z.vx h6 B hB) (notsetI (okI_set h2) _)
    rw [own_slots] at q
    exact q.imp fun σ H Q hq => dc_read hq

/-! ### list(range(n)) -/
theorem blt_list : (("list" : String) : Str) ∈ bltNames := by decide +kernel
theorem rgV_rp (K : PySem.W.Frag) (M : Addr → Prop) (H : Hp) (n : Int) : RpA K M H (rgV 0 n) (ranged 0 1 n.toNat) := by
  unfold rgV ranged
  rw [show (n - 0).toNat = n.toNat by simp]
  generalize List.range n.toNat = l
  induction l with
  | nil => exact .nil
  | cons a l ih =>
    rw [List.map_cons, List.map_cons]
    refine .cons ?_ ih
    rw [Int.mul_one]
    exact .int _
theorem snd_lrg (o : XOk gi G tabs N sc ts k X) {a : E} {x : Expr} (h : okE gi N sc (.lrg a) x = true) (ih : ∀ y, okE gi N sc a y = true → SE tabs X y (runE G a)) : SE tabs X x (runE G (.lrg a)) := fun B hB => by
  simp only [okE] at h
  split at h
  · rename_i f y e
    obtain ⟨p, pos, rfl⟩ := asCall_some e
    simp only [Bool.and_eq_true, decide_eq_true_eq] at h
    obtain ⟨⟨rfl, hgl⟩, h⟩ := h
    split at h
    · rename_i g w e2
      obtain ⟨p2, pos2, rfl⟩ := asCall_some e2
      simp only [Bool.and_eq_true, decide_eq_true_eq, Bool.not_eq_true'] at h
      obtain ⟨⟨⟨rfl, hgr⟩, hst⟩, hw⟩ := h
      refine (pe_listRg o.calm (o.gl hgl) (o.blt _ blt_list) (prg_1 (o.gl hgr) (o.blt _ blt_range) (ih w hw B hB) (by rw [star_of hst]))).imp fun σ H Q ⟨ρ, tt, vs, r, ρ', hR, hl, hF, hQ⟩ => ?_
      simp only [runE] at hF
      obtain ⟨⟨ra, ρ1⟩, g1, hF⟩ := Res.bind_ok hF
      cases q : ra.d with
      | int n =>
        rw [show (ra, ρ1).1.d = ra.d from rfl, q] at hF
        simp only at hF
        by_cases hz : (inR n && lineOk n.toNat) = true
        · rw [if_pos hz] at hF
          cases hF
          rw [Bool.and_eq_true] at hz
          refine ⟨ρ, tt, vs, ra, _, hR, hl, g1, fun v H' R1 => ?_⟩
          obtain ⟨q0, q1⟩ := R1.take1
          rw [q] at q1
          have hb := inR_iff hz.1
          have hz2 := lineOk_iff hz.2
          rw [sizeLine_eq] at hz2
          refine ⟨n, q1.intV, ⟨by omega, by omega, hb.1, hb.2, by omega⟩, fun p hp => ?_⟩
          exact fin_lst q0 (rgV_rp _ _ _ n) hQ p hp
        · rw [if_neg hz] at hF; cases hF
      | _ => rw [show (ra, ρ1).1.d = ra.d from rfl, q] at hF; cases hF
    · cases h
  · cases h

/-! ### displays of dicts -/
/-- the pairs of a display: keys and values from the left -/
theorem laced_len : ∀ {ks : List (Option Expr)} {vs l : List Expr}, laced ks vs = some l → ks.all (·.isSome) = true ∧ ks.length = vs.length ∧ l.length = 2 * ks.length
  | [], [], l, h => by cases h; exact ⟨rfl, rfl, rfl⟩
  | [], _ :: _, l, h => by cases h
  | none :: _, _, l, h => by simp [laced] at h
  | some k :: ks, [], l, h => by simp [laced] at h
  | some k :: ks, v :: vs, l, h => by
    simp only [laced] at h
    cases e : laced ks vs with
    | none => rw [e] at h; cases h
    | some r =>
      rw [e] at h
      cases h
      obtain ⟨h1, h2, h3⟩ := laced_len e
      exact ⟨by simpa using h1, by simp [h2], by simp [h3]; omega⟩
def trsOf (K : PySem.W.Frag) (B : Bs) (G : Glo) : Es → List (TE × TE)
  | .cons a (.cons b es) => (tE K B (runE G a), tE K B (runE G b)) :: trsOf K B G es
  | _ => []
theorem okEs_cons {e : E} {es : Es} {x : Expr} {l : List Expr} (h : okEs gi N sc (.cons e es) (x :: l) = true) : isStar x = false ∧ okE gi N sc e x = true ∧ okEs gi N sc es l = true := by
  simp only [okEs, Bool.and_eq_true, Bool.not_eq_true'] at h
  exact ⟨h.1.1, h.1.2, h.2⟩
def flatP (ps : List (V × V)) : List V := ps.flatMap fun p => [p.1, p.2]
theorem pairs_read {B : Bs} {σ : L2.St} : ∀ {es : Es} {ρ ρ' : Env} {tt : List Sl} {vs : List (Option V)} {rs : List Rv} {H : Hp} {Q : List (V × V) → Hp → Prop} {kvs : List (Ky × D)}, R X.K B (ρ ++ tt) (σ ++ vs) H → ρ.length = σ.length → runEs G es ρ = .ok (rs, ρ') → pairsK (rs.map Rv.d) = some kvs →
    (∀ ps H', (flatP ps).length = rs.length → R X.K B (ρ' ++ tt ++ rs.map Rv.sl) (σ ++ vs ++ (flatP ps).map some) H' → Q ps H') → tPairs (trsOf X.K B G es) σ H Q
  | .nil, ρ, ρ', tt, vs, rs, H, Q, kvs, hR, hl, hF, hk, hQ => by
    simp only [runEs] at hF
    cases hF
    exact hQ [] H rfl (by simpa [flatP] using hR)
  | .cons a .nil, ρ, ρ', tt, vs, rs, H, Q, kvs, hR, hl, hF, hk, hQ => by
    simp only [runEs] at hF
    obtain ⟨p, _, hF⟩ := Res.bind_ok hF
    cases hF
    simp [pairsK] at hk
  | .cons a (.cons b es), ρ, ρ', tt, vs, rs, H, Q, kvs, hR, hl, hF, hk, hQ => by
    simp only [runEs] at hF
    obtain ⟨⟨ra, ρ1⟩, g1, hF⟩ := Res.bind_ok hF
    obtain ⟨⟨rs', ρ2'⟩, g2, hF⟩ := Res.bind_ok hF
    cases hF
    obtain ⟨⟨rb, ρ2⟩, g3, g2⟩ := Res.bind_ok g2
    obtain ⟨⟨rs2, ρ3⟩, g4, g2⟩ := Res.bind_ok g2
    cases g2
    refine ⟨ρ, tt, vs, ra, ρ1, hR, hl, g1, fun x H1 R1 => ?_⟩
    have l1 : ρ1.length = σ.length := by have a := hR.len; have b := R1.len; simp at a b; omega
    refine ⟨ρ1, tt ++ [ra.sl], vs ++ [some x], rb, ρ2, by simpa using R1, l1, g3, fun y H2 R2 => ?_⟩
    have l2 : ρ2.length = σ.length := by have a := R1.len; have b := R2.len; simp at a b; omega
    obtain ⟨kvs2, hk2⟩ : ∃ l, pairsK (rs2.map Rv.d) = some l := by
      simp only [List.map_cons, pairsK] at hk
      cases e : pairsK (rs2.map Rv.d) with
      | none =>
        rw [e] at hk
        cases e3 : kyOf ra.d with
        | none => rw [e3] at hk; cases hk
        | some y => rw [e3] at hk; cases hk
      | some l => exact ⟨l, rfl⟩
    refine pairs_read (tt := tt ++ [ra.sl] ++ [rb.sl]) (vs := vs ++ [some x] ++ [some y]) (by simpa using R2) l2 g4 hk2 fun ps H' hlen R3 => hQ _ H' ?_ ?_
    · simp [flatP] at hlen ⊢; omega
    · simpa [flatP] using R3
theorem rpA_inv {K : PySem.W.Frag} {M : Addr → Prop} {H : Hp} {v : V} {vs : List V} {ds : List D} (h : RpA K M H (v :: vs) ds) : ∃ d ds', ds = d :: ds' ∧ Rp K M H v d ∧ RpA K M H vs ds' := by
  cases h with
  | cons h t => exact ⟨_, _, rfl, h, t⟩
theorem kvs_of {K : PySem.W.Frag} {M : Addr → Prop} {H : Hp} : ∀ {ps : List (V × V)} {ds : List D} {kvs : List (Ky × D)}, RpA K M H (flatP ps) ds → pairsK ds = some kvs → ∃ xs : List (Key × V), ps = xs.map (fun kv => (kV kv.1, kv.2)) ∧ xs.length = kvs.length ∧ RpK K M H xs kvs
  | [], ds, kvs, h, e => by
    have h : RpA K M H [] ds := h
    cases h
    cases e
    exact ⟨[], rfl, rfl, .nil⟩
  | p :: ps, ds, kvs, h, e => by
    have h : RpA K M H (p.1 :: p.2 :: flatP ps) ds := h
    obtain ⟨d1, ds1, rfl, h1, h⟩ := rpA_inv h
    obtain ⟨d2, ds2, rfl, h2, h⟩ := rpA_inv h
    · · have e : (match kyOf d1, pairsK ds2 with
          | some y, some l => some ((y, d2) :: l)
          | _, _ => none) = some kvs := e
        cases e1 : kyOf d1 with
        | none => rw [e1] at e; cases e
        | some y =>
          cases e2 : pairsK ds2 with
          | none => rw [e1, e2] at e; cases e
          | some l =>
            rw [e1, e2] at e
            cases e
            obtain ⟨xs, q1, q2, q3⟩ := kvs_of h e2
            obtain ⟨kk, k1, k2⟩ := kyOf_kK e1
            refine ⟨(kk, p.2) :: xs, ?_, by simp [q2], .cons k1 h2 q3⟩
            rw [List.map_cons, ← q1, ← k2 h1]
theorem dic_read {es : Es} {B : Bs} {σ : L2.St} {H : Hp} {Q : VK} (h : tE X.K B (runE G (.dic es)) σ H Q) : tDisp (trsOf X.K B G es) σ H Q := by
  obtain ⟨ρ, tt, vs, r, ρ', hR, hl, hF, hQ⟩ := h
  simp only [runE] at hF
  obtain ⟨⟨rs, ρ1⟩, g1, hF⟩ := Res.bind_ok hF
  obtain ⟨kvs, g2, hF⟩ := Res.bind_ok hF
  have g2 : pairsK (rs.map Rv.d) = some kvs := Res.of_ok g2
  by_cases hz : decide (kvs.length ≤ 15) = true
  · rw [if_pos hz] at hF
    cases hF
    intro p hp
    have hlt : tt.length = vs.length := by have a := hR.len; simp at a; omega
    have R0 : R X.K B (ρ ++ (tt ++ [.own (.dct [])])) (σ ++ (vs ++ [some (.ref p)])) (upd H p (.dK [])) := by
      have q := hR.push_own (d := .dct []) hp (Grow.new hp) ⟨[], upd_same, .nil⟩
      simpa using q
    refine pairs_read R0 hl g1 g2 fun ps H2 hlen R2 => ?_
    have l1 : ρ1.length = σ.length := by have a := R2.len; simp at a; omega
    obtain ⟨q0, q1⟩ := R2.takeAll (by simp [l1, hlt])
    obtain ⟨xs, e1, e2, e3⟩ := kvs_of q1 g2
    have q0' : R X.K B ((ρ1 ++ tt) ++ [.own (.dct [])]) ((σ ++ vs) ++ [some (.ref p)]) H2 := by simpa using q0
    have gi1 : ((ρ1 ++ tt) ++ [Sl.own (.dct [])])[(ρ1 ++ tt).length]? = some (.own (.dct [])) := getEnd _ _
    have gv1 : ((σ ++ vs) ++ [some (V.ref p)])[(ρ1 ++ tt).length]? = some (some (.ref p)) := by
      rw [show (ρ1 ++ tt).length = (σ ++ vs).length by simp [l1, hlt]]
      exact getEnd _ _
    obtain ⟨a', k1, k2, _⟩ := q0'.own _ _ gi1
    rw [gv1] at k1; cases k1
    obtain ⟨ys, k3, k4⟩ := k2
    cases k4
    have ma : Mt B.Z (ρ1 ++ (tt ++ [Sl.own (.dct [])])) (σ ++ (vs ++ [some (V.ref p)])) p := .inr ⟨(ρ1 ++ tt).length, .own (.dct []), by rw [← List.append_assoc]; exact gi1, trivial, by rw [← List.append_assoc]; exact gv1⟩
    refine ⟨k3, xs, e1, by rw [e2]; exact of_decide_eq_true hz, ?_⟩
    have stay : Stay (Mt B.Z (ρ1 ++ (tt ++ [Sl.own (.dct [])])) (σ ++ (vs ++ [some (V.ref p)]))) H2 (upd H2 p (.dK (mergeK [] xs))) := fun b o hb n _ => by
      have ne : b ≠ p := fun e => n (by rw [e]; exact ma)
      rw [upd_ne ne]; exact hb
    have mm : RpK X.K (Mt B.Z (ρ1 ++ (tt ++ [Sl.own (.dct [])])) (σ ++ (vs ++ [some (V.ref p)]))) (upd H2 p (.dK (mergeK [] xs))) (mergeK [] xs) (mergeD [] kvs) := RpK.merge (e3.mono stay fun a m => .inl m) .nil
    have R3 := q0'.mutate (s := .own (.dct [])) (s' := .own (.dct (mergeD [] kvs))) (d' := .dct (mergeD [] kvs)) (o' := .dK (mergeK [] xs)) gi1 (.inl ⟨rfl, rfl⟩) gv1 ⟨mergeK [] xs, upd_same, by simpa using mm⟩
    refine hQ _ _ ?_
    have e : ((ρ1 ++ tt) ++ [Sl.own (.dct [])]).set (ρ1 ++ tt).length (.own (.dct (mergeD [] kvs))) = ρ1 ++ tt ++ [.own (.dct (mergeD [] kvs))] := by simp
    rw [e] at R3
    exact R3
  · rw [if_neg hz] at hF; cases hF
theorem snd_dic {es : Es} {x : Expr} (h : okE gi N sc (.dic es) x = true) (ih : ∀ (B : Bs), B.tabs = tabs → ∀ {pos : Pos} {ks : List (Option Expr)} {vs l : List Expr}, laced ks vs = some l → okEs gi N sc es l = true → PPs X pos ks vs (trsOf X.K B G es)) : SE tabs X x (runE G (.dic es)) := fun B hB => by
  simp only [okE] at h
  cases e : asDict x with
  | none => rw [e] at h; cases h
  | some l =>
    rw [e] at h
    simp only [Bool.and_eq_true, Bool.not_eq_true', decide_eq_true_eq] at h
    obtain ⟨⟨h1, h2⟩, h3⟩ := h
    obtain ⟨ks, vs, pos, rfl, hl⟩ := asDict_some e
    obtain ⟨a1, a2, a3⟩ := laced_len hl
    exact (pe_disp (ih B hB hl h3) a1 a2 (fun z => by
      subst z
      have : l.length = 0 := by simpa using a3
      rw [List.length_eq_zero_iff.mp this] at h1
      cases h1) (by omega)).imp fun σ H Q hq => dic_read hq
end
end Gw

set_option Elab.async false
set_option linter.all false
set_option maxRecDepth 100000
set_option maxHeartbeats 2000000
/-! The value layer: isinstance, pop. -/
namespace Gw
open PySem L2
section
variable {gi : GI} {G : Glo} {tabs : List Addr} {N : List Str} {sc ts : Scope} {k : Nat} {X : Cx}
theorem ty_blt (t : Ty) : ((t.nm : String) : Str) ∈ bltNames := by cases t <;> decide +kernel
theorem ty_boot (t : Ty) : bootBuiltins ((t.nm : String) : Str) = some (.type t.nm) := by cases t <;> rfl
theorem ty_of {K : PySem.W.Frag} {M : Addr → Prop} {H : Hp} {v : V} {d : D} {t : Ty} {b : Bool} (h : Rp K M H v d) (e : dIsi t d = some b) : ∃ u, TyX K H v u ∧ PySem.W.kitOne K u (.type t.nm) = some b := by
  cases h with
  | non => cases e; exact ⟨_, .base .non, by cases t <;> rfl⟩
  | bl x => cases e; exact ⟨_, .base (.bl x), by cases t <;> rfl⟩
  | int x => cases e; exact ⟨_, .base (.int x), by cases t <;> rfl⟩
  | str x => cases e; exact ⟨_, .base (.str _), by cases t <;> rfl⟩
  | lst h n r => cases e; exact ⟨_, .base (.lst h), by cases t <;> rfl⟩
  | tup h r =>
    cases e
    rcases h with ⟨h, _⟩ | ⟨o, its, n, h1, h2, _⟩
    · exact ⟨_, .base (.tup h), by cases t <;> rfl⟩
    · exact ⟨_, .kTuple h1 h2, by cases t <;> rfl⟩
  | _ => cases e
theorem snd_isi (o : XOk gi G tabs N sc ts k X) {t : Ty} {a : E} {x : Expr} (h : okE gi N sc (.isi t a) x = true) (iha : ∀ y, okE gi N sc a y = true → SE tabs X y (runE G a)) : SE tabs X x (runE G (.isi t a)) := fun B hB => by
  simp only [okE] at h
  split at h
  · rename_i f y z e
    simp only [Bool.and_eq_true, decide_eq_true_eq, Bool.not_eq_true'] at h
    obtain ⟨p, pos, rfl⟩ := asCall_some e
    obtain ⟨⟨⟨⟨rfl, h1⟩, hs⟩, h2⟩, h3⟩ := h
    cases e2 : asName z with
    | none => rw [e2] at h3; cases h3
    | some n =>
      rw [e2] at h3
      simp only [Bool.and_eq_true, decide_eq_true_eq] at h3
      obtain ⟨p2, rfl⟩ := asName_some e2
      obtain ⟨rfl, h4⟩ := h3
      obtain ⟨n1, n2⟩ := bltN (ty_blt t)
      have pz : PE X (.Name ((t.nm : String) : Str) p2) (tC (.ty t.nm)) := pe_bltn (o.gl h4) (o.blt _ (ty_blt t)) (ty_boot t) rfl n1 n2
      refine (pe_callB (X := X) (p := p) (pos := pos) call_isi (o.gl h1) (o.blt _ (by decide +kernel)) rfl (pa_cons (iha y h2 B hB) (pa_cons pz pa_nil (by rfl)) (star_of hs)) (by decide +kernel) (by decide +kernel) (star_of hs) (by rfl)).imp fun σ H Q ⟨ρ, tt, vs, r, ρ', hR, hl, hF, hQ⟩ => ?_
      simp only [runE] at hF
      obtain ⟨⟨ra, ρ1⟩, g1, hF⟩ := Res.bind_ok hF
      obtain ⟨b, g2, hF⟩ := Res.bind_ok hF
      have g2 := Res.of_ok g2
      cases hF
      refine ⟨ρ, tt, vs, ra, ρ1, hR, hl, g1, fun v H1 R1 => ?_⟩
      obtain ⟨q0, q1⟩ := R1.take1
      obtain ⟨u, k1, k2⟩ := ty_of q1 g2
      exact ⟨v, .ty t.nm, u, .type t.nm, b, rfl, .ty _, k1, k2, hQ _ H1 (q0.push_val (.bl b))⟩
  · cases h
/-- a container of this frame loses an element -/
theorem pop_read {B : Bs} {i : Nat} {ρ : Env} {tt : List Sl} {σ vs : List (Option V)} {H : Hp} {ds ds' : List D} {s : D → Sl} {j : Nat} {d : D} (hs : s = Sl.own ∨ s = Sl.ref) (hR : R X.K B (ρ ++ tt) (σ ++ vs) H) (hl : ρ.length = σ.length) (hi : ρ.at i = s (.lst ds)) (hj : ds[j]? = some d) (hd : ds' = ds.eraseIdx j) :
    ∃ (a : Addr) (xs : List V) (y : V), σ[i]? = some (some (.ref a)) ∧ H a = some (.lst xs) ∧ xs.length = ds.length ∧ xs[j]? = some y ∧ R X.K B (ρ.set i (s (.lst ds')) ++ tt ++ [.val d]) (σ ++ vs ++ [some y]) (upd H a (.lst (xs.eraseIdx j))) := by
  have hne : s (.lst ds) ≠ .no := by rcases hs with rfl | rfl <;> (intro z; cases z)
  have gi1 := at_some hi hne
  have hilt := lt_of_get gi1
  obtain ⟨a, hva, hoa⟩ : ∃ a, (σ ++ vs)[i]? = some (some (.ref a)) ∧ OwnAt X.K (Mt B.Z (ρ ++ tt) (σ ++ vs)) H a (.lst ds) := by
    rcases hs with rfl | rfl
    · obtain ⟨a, k1, k2, _⟩ := hR.own i _ (getL gi1); exact ⟨a, k1, k2⟩
    · obtain ⟨a, _, k1, k2⟩ := hR.ref i _ (getL gi1); exact ⟨a, k1, k2⟩
  have hso : (s (.lst ds)).isOwn := by rcases hs with rfl | rfl <;> exact trivial
  obtain ⟨xs, k3, k4⟩ := hoa
  obtain ⟨y, y1, y2⟩ := k4.get hj
  have ma : Mt B.Z (ρ ++ tt) (σ ++ vs) a := .inr ⟨i, _, getL gi1, hso, hva⟩
  have stay : Stay (Mt B.Z (ρ ++ tt) (σ ++ vs)) H (upd H a (.lst (xs.eraseIdx j))) := fun b oo hb nn _ => by
    have ne : b ≠ a := fun e => nn (by rw [e]; exact ma)
    rw [upd_ne ne]; exact hb
  have er : RpA X.K (Mt B.Z (ρ ++ tt) (σ ++ vs)) H (xs.eraseIdx j) ds' := by
    subst hd
    rw [List.eraseIdx_eq_take_drop_succ, List.eraseIdx_eq_take_drop_succ]
    exact (k4.take j).append (k4.drop (j + 1))
  have q := hR.mutate (s := s (.lst ds)) (s' := s (.lst ds')) (d := .lst ds) (d' := .lst ds') (o' := .lst (xs.eraseIdx j)) (getL gi1) (by rcases hs with rfl | rfl; exact .inl ⟨rfl, rfl⟩; exact .inr ⟨rfl, rfl⟩) hva
    ⟨xs.eraseIdx j, upd_same, er.mono stay fun a m => .inl m⟩
  rw [set_left hilt] at q
  have hm : ∀ b, Mt B.Z (ρ.set i (s (.lst ds')) ++ tt) (σ ++ vs) b → Mt B.Z (ρ ++ tt) (σ ++ vs) b := fun b m => m.elim .inl fun ⟨jj, ss, h1, h2, h3⟩ => by
    by_cases e : jj = i
    · subst e
      exact .inr ⟨jj, s (.lst ds), getL gi1, hso, h3⟩
    · rw [← set_left hilt, List.getElem?_set_ne (Ne.symm e)] at h1
      exact .inr ⟨jj, ss, h1, h2, h3⟩
  refine ⟨a, xs, y, ?_, k3, k4.len, y1, q.push_val (rp_congr hm (y2.mono stay fun a m => .inl m))⟩
  rw [get_left (by omega)] at hva
  exact hva
theorem last_ix {α : Type} {l : List α} {d : α} (h : l.getLast? = some d) : l[l.length - 1]? = some d ∧ l.dropLast = l.eraseIdx (l.length - 1) := by
  rw [List.getLast?_eq_getElem?] at h
  exact ⟨h, by
    rw [List.eraseIdx_eq_take_drop_succ, List.dropLast_eq_take]
    rw [List.drop_of_length_le (by omega), List.append_nil]⟩
theorem snd_pop (o : XOk gi G tabs N sc ts k X) {i : Nat} {x : Expr} (h : okE gi N sc (.pop i) x = true) : SE tabs X x (runE G (.pop i)) := fun B hB => by
  simp only [okE] at h
  split at h
  · rename_i oo m e2
    simp only [Bool.and_eq_true, decide_eq_true_eq] at h
    obtain ⟨apos, pos, rfl, hl1, hl2⟩ := asMeth_some e2
    obtain ⟨rfl, h1⟩ := h
    have hbase : attributeBase oo ("pop" : Str) X.env (eval oo X.env) = eval oo X.env := by
      cases oo <;> first | rfl | (simp [isCallE] at hl2)
    refine (pe_bm0 PySem.F.plainAttrs_list PySem.F.slot_list_pop PySem.F.type_list_pop mt_pop (o.var h1) hbase hl1).imp fun σ H Q ⟨ρ, tt, vs, r, ρ', hR, hl, hF, hQ⟩ => ?_
    have key : ∀ (s : D → Sl) (ds : List D) (d : D), (s = Sl.own ∨ s = Sl.ref) → ρ.at i = s (.lst ds) → ds.getLast? = some d → r = .val d → ρ' = ρ.set i (s (.lst ds.dropLast)) → tBM0 X.K "list" rPop (tVar i) σ H Q := fun s ds d hs hi hd hr hρ => by
      subst hr hρ
      obtain ⟨l1, l2⟩ := last_ix hd
      obtain ⟨a, xs, y, q1, q2, q3, q4, q5⟩ := pop_read hs hR hl hi l1 l2
      refine ⟨.ref a, q1, .inl ⟨rfl, xs, .inl (.inl q2)⟩, a, xs, y, rfl, rfl, q2, by rw [q3]; exact q4, ?_⟩
      have e : xs.dropLast = xs.eraseIdx (ds.length - 1) := by
        rw [← q3, List.eraseIdx_eq_take_drop_succ, List.dropLast_eq_take, List.drop_of_length_le (by omega), List.append_nil]
      rw [e]
      exact hQ y _ q5
    simp only [runE] at hF
    split at hF
    · rename_i ds e
      obtain ⟨d, g, hF⟩ := Res.bind_ok hF
      cases hF
      exact key Sl.own ds d (.inl rfl) e (Res.of_ok g) rfl rfl
    · rename_i ds e
      obtain ⟨d, g, hF⟩ := Res.bind_ok hF
      cases hF
      exact key Sl.ref ds d (.inr rfl) e (Res.of_ok g) rfl rfl
    · cases hF
  · cases h
theorem snd_pop0 (o : XOk gi G tabs N sc ts k X) {i : Nat} {x : Expr} (h : okE gi N sc (.pop0 i) x = true) : SE tabs X x (runE G (.pop0 i)) := fun B hB => by
  simp only [okE] at h
  split at h
  · rename_i oo m y e2
    simp only [Bool.and_eq_true, decide_eq_true_eq] at h
    obtain ⟨apos, pos, rfl, hl1, hl2⟩ := asMeth_some e2
    obtain ⟨⟨rfl, h1⟩, h2⟩ := h
    obtain ⟨kk, pp, rfl⟩ := asConst_some h2
    have hbase : attributeBase oo ("pop" : Str) X.env (eval oo X.env) = eval oo X.env := by
      cases oo <;> first | rfl | (simp [isCallE] at hl2)
    refine (pe_bm PySem.F.plainAttrs_list PySem.F.slot_list_pop PySem.F.type_list_pop mt_popAt (o.var h1) (pa_cons (pe_int (i := 0)) pa_nil (by rfl)) hbase (by rfl) hl1 (by rfl) (by rfl)).imp fun σ H Q ⟨ρ, tt, vs, r, ρ', hR, hl, hF, hQ⟩ => ?_
    have key : ∀ (s : D → Sl) (ds : List D) (d : D), (s = Sl.own ∨ s = Sl.ref) → ρ.at i = s (.lst (d :: ds)) → r = .val d → ρ' = ρ.set i (s (.lst ds)) → tVar i σ H fun x H1 => tyV X.K "list" x H1 ∧ rPopAt x [.int 0] H1 Q := fun s ds d hs hi hr hρ => by
      subst hr hρ
      obtain ⟨a, xs, y, q1, q2, q3, q4, q5⟩ := pop_read (j := 0) (ds' := ds) hs hR hl hi rfl rfl
      refine ⟨.ref a, q1, .inl ⟨rfl, xs, .inl (.inl q2)⟩, a, xs, 0, 0, y, rfl, rfl, q2, by decide, by decide, ?_, q4, hQ y _ q5⟩
      unfold seqIndex?
      rw [q3]
      simp
    simp only [runE] at hF
    split at hF
    · rename_i d ds e
      cases hF
      exact key Sl.own ds d (.inl rfl) e rfl rfl
    · rename_i d ds e
      cases hF
      exact key Sl.ref ds d (.inr rfl) e rfl rfl
    · cases hF
  · cases h
end
end Gw

set_option Elab.async false
set_option linter.all false
set_option maxRecDepth 100000
set_option maxHeartbeats 2000000
/-! The value layer: places of a sign within a text. -/
namespace Gw
open PySem L2 PySem.StrLaws PySem.Builtin PySem.Builtin.Str
theorem occ_one (x : Str) (c limit : Nat) : ∀ (k i : Nat) (st : Array Nat × Nat), st.snd ≤ i → (forIn (List.range' i k) st (occBody x ⟨#[c]⟩ x.length limit)).run.fst.toList = st.fst.toList ++ ((List.range' i k).filter fun p => x.cps.toList[p]? == some c).take (limit - st.fst.size)
  | 0, i, st, h => by
    show st.fst.toList = _
    simp
  | k + 1, i, st, h => by
    rw [List.range'_succ, List.forIn_cons]
    have so := subAt_one x c i
    unfold occBody
    split
    · rename_i hc
      have hp : x.cps.toList[i]? = some c := so.mp ⟨hc.1.2, hc.2⟩
      have q := occ_one x c limit k (i + 1) (st.fst.push i, i + (⟨#[c]⟩ : Str).length) (Nat.le_refl _)
      refine Eq.trans q ?_
      have hb : (x.cps.toList[i]? == some c) = true := by rw [hp]; simp
      rw [List.filter_cons, if_pos hb]
      have hs : limit - st.fst.size = (limit - (st.fst.size + 1)) + 1 := by have := hc.1.1.1; omega
      rw [hs, List.take_succ_cons]
      simp
    · rename_i hc
      have q := occ_one x c limit k (i + 1) (st.fst, st.snd) (by show st.snd ≤ i + 1; omega)
      refine Eq.trans q ?_
      by_cases hp : x.cps.toList[i]? = some c
      · have hz : ¬ st.fst.size < limit := fun z => hc ⟨⟨⟨z, h⟩, (so.mpr hp).1⟩, (so.mpr hp).2⟩
        rw [show limit - st.fst.size = 0 by omega, List.take_zero, List.take_zero]
      · have hb : (x.cps.toList[i]? == some c) = false := by
          cases e : x.cps.toList[i]? == some c with
          | false => rfl
          | true => exact (hp (beq_iff_eq.mp e)).elim
        rw [List.filter_cons, hb]
        rfl
theorem occ_is (a : List Nat) (c limit : Nat) : occurrences (mkS a) (mkS [c]) 0 a.length limit = ((List.range (a.length + 1)).filter fun p => a[p]? == some c).take limit := by
  have q := occ_one (mkS a) c limit (a.length + 1) 0 (#[], 0) (Nat.le_refl _)
  have e := occ_eq (mkS a) (mkS [c]) 0 a.length limit
  rw [e]
  rw [mkS_len] at q
  refine Eq.trans q ?_
  simp [mkS, List.range_eq_range']
theorem cntR (c : Nat) : ∀ (a : List Nat) (m : Nat), a.length ≤ m → ((List.range m).filter fun p => a[p]? == some c).length = a.count c
  | [], m, _ => by simp
  | x :: a, 0, h => by simp at h
  | x :: a, m + 1, h => by
    rw [List.range_succ_eq_map, List.filter_cons, List.filter_map, List.count_cons]
    have ih := cntR c a m (by simpa using h)
    have e : ((List.range m).filter ((fun p => (x :: a)[p]? == some c) ∘ Nat.succ)).length = a.count c := by
      rw [← ih]; rfl
    by_cases hx : x = c
    · subst hx
      simp [e]
    · have : ((x :: a)[0]? == some c) = false := by simp [hx]
      rw [this]
      simp [e, hx]
theorem count_one (a : List Nat) (c : Nat) : Txt.count (mkS a) (mkS [c]) = (a.count c : Nat) := by
  show (((occurrences (mkS a) (mkS [c]) 0 (mkS a).length ((mkS a).length + 1)).length : Nat) : Int) = _
  rw [mkS_len, occ_is, List.length_take, cntR c a (a.length + 1) (by omega)]
  have := List.count_le_length (a := c) (l := a)
  congr 1
  omega
theorem idxR (c : Nat) : ∀ (a : List Nat) (m : Nat), a.length ≤ m → ((List.range m).filter fun p => a[p]? == some c).head? = a.findIdx? (· == c)
  | [], m, _ => by simp
  | x :: a, 0, h => by simp at h
  | x :: a, m + 1, h => by
    rw [List.range_succ_eq_map, List.filter_cons, List.filter_map, List.findIdx?_cons]
    have ih := idxR c a m (by simpa using h)
    have e : ((List.range m).filter ((fun p => (x :: a)[p]? == some c) ∘ Nat.succ)).head? = a.findIdx? (· == c) := by
      rw [← ih]; rfl
    by_cases hx : x = c
    · subst hx
      simp
    · have h1 : ((x :: a)[0]? == some c) = false := by simp [hx]
      have h2 : (x == c) = false := by simp [hx]
      rw [h1, h2]
      simp only [Bool.false_eq_true, if_false]
      rw [List.head?_map, e]
theorem index_one {a : List Nat} {c j : Nat} (h : a.findIdx? (· == c) = some j) : ∃ rest, occurrences (mkS a) (mkS [c]) 0 (mkS a).length 1 = j :: rest := by
  rw [mkS_len, occ_is]
  have q := idxR c a (a.length + 1) (by omega)
  rw [h] at q
  cases e : (List.range (a.length + 1)).filter fun p => a[p]? == some c with
  | nil => rw [e] at q; cases q
  | cons x l =>
    rw [e] at q
    cases q
    exact ⟨[], by simp⟩
section
variable {gi : GI} {G : Glo} {tabs : List Addr} {N : List Str} {sc ts : Scope} {k : Nat} {X : Cx}
/-- what the method's rule asks -/
def rSm (m : Sm1) : V → List V → Hp → VK → Prop := fun x xs H Q => ∃ (a : List Nat) (c : Nat) (d : D), x = .str (mkS a) ∧ xs = [.str (mkS [c])] ∧ dSm m (.str a) (.str [c]) = some d ∧ ∃ i : Int, d = .int i ∧ Q (.int i) H
theorem mt_sm_count : MtR X "str.count" (rSm .count) := fun pins s σ H x xs v us Q I rx rv h => by
  obtain ⟨a, c, d, e1, e2, e3, i, e4, q⟩ := h
  subst e4
  cases e3
  exact mt_count pins s σ H x xs v us Q I rx rv ⟨mkS a, mkS [c], e1, e2, by rw [count_one]; exact q⟩
theorem mt_sm_index : MtR X "str.index" (rSm .index) := fun pins s σ H x xs v us Q I rx rv h => by
  obtain ⟨a, c, d, e1, e2, e3, i, e4, q⟩ := h
  subst e4
  simp only [dSm] at e3
  cases e5 : a.findIdx? (· == c) with
  | none => rw [e5] at e3; cases e3
  | some j =>
    rw [e5] at e3
    cases e3
    obtain ⟨rest, o⟩ := index_one e5
    exact mt_sindex pins s σ H x xs v us Q I rx rv ⟨mkS a, mkS [c], j, rest, e1, e2, o, q⟩
theorem snd_sme {m : Sm1} {a b : E} {x : Expr} (h : okE gi N sc (.sme m a b) x = true) (iha : ∀ y, okE gi N sc a y = true → SE tabs X y (runE G a)) (ihb : ∀ y, okE gi N sc b y = true → SE tabs X y (runE G b)) : SE tabs X x (runE G (.sme m a b)) := fun B hB => by
  simp only [okE] at h
  split at h
  · rename_i oo mm y e
    simp only [Bool.and_eq_true, decide_eq_true_eq, Bool.not_eq_true'] at h
    obtain ⟨apos, pos, rfl, hl1, hl2⟩ := asMeth_some e
    obtain ⟨⟨⟨rfl, hs⟩, h1⟩, h2⟩ := h
    have hbase : attributeBase oo ((m.nm : String) : Str) X.env (eval oo X.env) = eval oo X.env := by
      cases oo <;> first | rfl | (simp [isCallE] at hl2)
    have rd : ∀ σ H Q, tE X.K B (runE G (.sme m a b)) σ H Q → tM1 (rSm m) (tE X.K B (runE G a)) (tE X.K B (runE G b)) σ H Q := fun σ H Q ⟨ρ, tt, vs, r, ρ', hR, hl, hF, hQ⟩ => by
      simp only [runE] at hF
      obtain ⟨⟨ra, ρ1⟩, g1, hF⟩ := Res.bind_ok hF
      obtain ⟨⟨rb, ρ2⟩, g2, hF⟩ := Res.bind_ok hF
      obtain ⟨d, g3, hF⟩ := Res.bind_ok hF
      have g3 : dSm m ra.d rb.d = some d := Res.of_ok g3
      cases hF
      refine ⟨ρ, tt, vs, ra, ρ1, hR, hl, g1, fun x1 H1 R1 => ?_⟩
      have l1 : ρ1.length = σ.length := by have a := hR.len; have b := R1.len; simp at a b; omega
      obtain ⟨_, q1⟩ := R1.take1
      cases qa : ra.d with
      | str la =>
        rw [qa] at g3 q1
        cases qb : rb.d with
        | str lb =>
          rw [qb] at g3
          match lb, qb, g3 with
          | [c], qb, g3 =>
            refine ⟨⟨_, q1.strV⟩, ρ1, tt ++ [ra.sl], vs ++ [some x1], rb, ρ2, by simpa using R1, l1, g2, fun x2 H2 R2 => ?_⟩
            have R2' : R X.K B ((ρ2 ++ tt) ++ [ra.sl] ++ [rb.sl]) ((σ ++ vs) ++ [some x1] ++ [some x2]) H2 := by simpa using R2
            obtain ⟨q0, q1', q2⟩ := R2'.take2
            rw [qb] at q2
            obtain ⟨i, rfl⟩ : ∃ i, d = .int i := by
              cases m with
              | count => cases g3; exact ⟨_, rfl⟩
              | index =>
                simp only [dSm] at g3
                cases e5 : la.findIdx? (· == c) with
                | none => rw [e5] at g3; cases g3
                | some j => rw [e5] at g3; cases g3; exact ⟨_, rfl⟩
            exact ⟨la, c, .int i, q1.strV, by rw [q2.strV], g3, i, rfl, hQ _ H2 (q0.push_val (.int i))⟩
          | [], qb, g3 => cases g3
          | _ :: _ :: _, qb, g3 => cases g3
        | _ => rw [qb] at g3; cases g3
      | _ => rw [qa] at g3; cases g3
    cases m with
    | count => exact (pe_m1 F.slot_str_count F.type_str_count mt_sm_count (iha oo h1 B hB) (ihb y h2 B hB) (star_of hs) hbase hl1).imp rd
    | index => exact (pe_m1 F.slot_str_index F.type_str_index mt_sm_index (iha oo h1 B hB) (ihb y h2 B hB) (star_of hs) hbase hl1).imp rd
  · cases h
end
end Gw

set_option Elab.async false
set_option linter.all false
set_option maxRecDepth 100000
set_option maxHeartbeats 2000000
/-! The value layer, part 14: every expression. -/
namespace Gw
open PySem L2
section
variable {gi : GI} {G : Glo} {tabs : List Addr} {N : List Str} {sc ts : Scope} {k : Nat} {X : Cx}
def tIfT (tc ta tb : TT) : TT := fun σ H Q => tc σ H fun d H1 => if d = true then ta σ H1 Q else tb σ H1 Q
theorem pt_ifExp {c a b : Expr} {pos : Pos} {tc ta tb : TT} (hc : PT X c tc) (ha : PT X a ta) (hb : PT X b tb) : PT X (.IfExp c a b pos) (tIfT tc ta tb) := by
  refine ⟨fun pins s σ H Q I h => ?_⟩
  have e : PySem.isTrue (.IfExp c a b pos) X.env (eval (.IfExp c a b pos) X.env) = (do if ← PySem.isTrue c X.env (eval c X.env) then PySem.isTrue a X.env (eval a X.env) else PySem.isTrue b X.env (eval b X.env)) := by
    rw [PySem.isTrue]
  rw [e]
  refine wpAny_bind (wpAny_mono (hc.run pins s σ H _ I h) (fun d s1 ⟨H1, I1, q1⟩ => ?_) fun _ _ h => h)
  cases d with
  | true => exact ha.run pins s1 σ H1 Q I1 q1
  | false => exact hb.run pins s1 σ H1 Q I1 q1
theorem snd_iteT {c a b : E} {x : Expr} (h : okE gi N sc (.ite c a b) x = true) (ihc : ∀ y, okE gi N sc c y = true → ST tabs X y (runE G c)) (iha : ∀ y, okE gi N sc a y = true → ST tabs X y (runE G a)) (ihb : ∀ y, okE gi N sc b y = true → ST tabs X y (runE G b)) : ST tabs X x (runE G (.ite c a b)) := fun B hB => by
  simp only [okE] at h
  cases e : asIf x with
  | none => rw [e] at h; cases h
  | some z =>
    obtain ⟨y, l, r⟩ := z
    rw [e] at h
    simp only [Bool.and_eq_true] at h
    obtain ⟨p, rfl⟩ := asIf_some e
    obtain ⟨⟨h1, h2⟩, h3⟩ := h
    refine (pt_ifExp (ihc y h1 B hB) (iha l h2 B hB) (ihb r h3 B hB)).imp fun σ H Q ⟨ρ, tt, vs, r, ρ', b', hR, hl, hF, hb, hQ⟩ => ?_
    simp only [runE] at hF
    obtain ⟨⟨rc, ρ1⟩, g1, hF⟩ := Res.bind_ok hF
    obtain ⟨t, g2, hF⟩ := Res.bind_ok hF
    refine ⟨ρ, tt, vs, rc, ρ1, t, hR, hl, g1, Res.of_ok g2, fun H1 R1 => ?_⟩
    have l1 : ρ1.length = σ.length := by have a := hR.len; have b := R1.len; simp at a b; omega
    cases t with
    | true =>
      simp only [if_true] at hF ⊢
      exact ⟨ρ1, tt, vs, r, ρ', b', R1, l1, hF, hb, hQ⟩
    | false =>
      simp only [Bool.false_eq_true, if_false] at hF ⊢
      exact ⟨ρ1, tt, vs, r, ρ', b', R1, l1, hF, hb, hQ⟩
/-- both, from the value alone -/
theorem IH.plain {e : E} (hp : ∀ {sc : Scope} {x : Expr}, okE gi N sc e x = true → plainTest x = true) (h : ∀ {sc ts : Scope} {k : Nat} {X : Cx}, XOk gi G tabs N sc ts k X → ∀ y, okE gi N sc e y = true → SE tabs X y (runE G e)) : IH gi G tabs N e :=
  ⟨h, fun o y hy => st_plain (hp hy) (h o y hy)⟩
theorem IH.both {e : E} (h : ∀ {sc ts : Scope} {k : Nat} {X : Cx}, XOk gi G tabs N sc ts k X → ∀ y, okE gi N sc e y = true → SE tabs X y (runE G e) ∧ ST tabs X y (runE G e)) : IH gi G tabs N e :=
  ⟨fun o y hy => (h o y hy).1, fun o y hy => (h o y hy).2⟩
theorem IH.two {e : E} (h : IH gi G tabs N e) (o : XOk gi G tabs N sc ts k X) : ∀ y, okE gi N sc e y = true → SE tabs X y (runE G e) ∧ ST tabs X y (runE G e) := fun y hy => ⟨h.se o y hy, h.st o y hy⟩
theorem pl_name {i : Nat} {x : Expr} (h : okV N sc i x = true) : plainTest x = true := by
  unfold okV at h
  cases e : asName x with
  | none => rw [e] at h; cases h
  | some y => obtain ⟨p, rfl⟩ := asName_some e; rfl
mutual
theorem allE {gi : GI} : ∀ e : E, IH gi G tabs N e
  | .nop => ⟨fun o y h B hB => ⟨fun pins s σ H Q I ⟨ρ, tt, vs, r, ρ', _, _, hF, _⟩ => by simp only [runE] at hF; cases hF⟩, fun o y h B hB => ⟨fun pins s σ H Q I ⟨ρ, tt, vs, r, ρ', b, _, _, hF, _⟩ => by simp only [runE] at hF; cases hF⟩⟩
  | .var i => IH.plain (fun h => pl_name (by simpa [okE] using h)) fun o y h => snd_var o (by simpa [okE] using h)
  | .cst d => IH.plain (fun {sc x} h => by
      simp only [okE] at h
      cases e : asConst x with
      | none => rw [e] at h; cases h
      | some y => obtain ⟨k, p, rfl⟩ := asConst_some e; rfl) fun o y h => snd_cst h
  | .glb g => IH.plain (fun {sc x} h => by
      simp only [okE] at h
      cases e : asName x with
      | none => rw [e] at h; cases h
      | some y => obtain ⟨p, rfl⟩ := asName_some e; rfl) fun o y h => snd_glb o h
  | .bin op a b => IH.plain (fun {sc x} h => by
      simp only [okE] at h
      cases e : asBin x with
      | none => rw [e] at h; cases h
      | some y => obtain ⟨_, _, _⟩ := y; obtain ⟨p, rfl⟩ := asBin_some e; rfl) fun o y h => snd_bin h ((allE a).se o) ((allE b).se o)
  | .neg a => IH.plain (fun {sc x} h => by
      simp only [okE] at h
      cases e : asUn x with
      | none => rw [e] at h; cases h
      | some y =>
        obtain ⟨oo, r⟩ := y
        rw [e] at h
        simp only [Bool.and_eq_true, decide_eq_true_eq] at h
        obtain ⟨p, rfl⟩ := asUn_some e
        obtain ⟨rfl, _⟩ := h
        rfl) fun o y h => snd_neg h ((allE a).se o)
  | .cmp op a b => IH.both fun o y h => snd_cmp o h ((allE a).se o) ((allE b).se o)
  | .chn op op' a b c => IH.both fun o y h => snd_chn o h ((allE a).se o) ((allE b).se o) ((allE c).se o)
  | .and a b => IH.both fun o y h => snd_and h ((allE a).two o) ((allE b).two o)
  | .or a b => IH.both fun o y h => snd_or h ((allE a).two o) ((allE b).two o)
  | .not a => IH.both fun o y h => snd_not h ((allE a).two o)
  | .ite c a b => IH.both fun o y h => ⟨snd_ite h ((allE c).two o) ((allE a).se o) ((allE b).se o), snd_iteT h ((allE c).st o) ((allE a).st o) ((allE b).st o)⟩
  | .tup es => IH.plain (fun {sc x} h => by
      simp only [okE] at h
      cases e : asTup x with
      | none => rw [e] at h; cases h
      | some y => obtain ⟨_, p, rfl⟩ := asTup_some e; rfl) fun o y h => snd_tup h (allEs es o)
  | .lst es => IH.plain (fun {sc x} h => by
      simp only [okE] at h
      cases e : asLst x with
      | none => rw [e] at h; cases h
      | some y => obtain ⟨p, rfl⟩ := asLst_some e; rfl) fun o y h => snd_lst h (allEs es o)
  | .idx a b => IH.plain (fun {sc x} h => by
      simp only [okE] at h
      cases e : asSub x with
      | none => rw [e] at h; cases h
      | some y => obtain ⟨_, _⟩ := y; obtain ⟨p, rfl, _⟩ := asSub_some e; rfl) fun o y h => snd_idx o h ((allE a).se o) ((allE b).se o)
  | .idv i b => IH.plain (fun {sc x} h => by
      simp only [okE] at h
      cases e : asSub x with
      | none => rw [e] at h; cases h
      | some y => obtain ⟨_, _⟩ := y; obtain ⟨p, rfl, _⟩ := asSub_some e; rfl) fun o y h => snd_idv o h ((allE b).se o)
  | .sli a lo hi => IH.plain (fun {sc x} h => by
      simp only [okE] at h
      cases e : asSli x with
      | none => rw [e] at h; cases h
      | some y => obtain ⟨_, _, _⟩ := y; obtain ⟨p, p2, rfl⟩ := asSli_some e; rfl) fun o y h => snd_sli h ((allE a).se o) ((allE lo).se o) ((allE hi).se o)
  | .lenv i => IH.plain (fun {sc x} h => by
      simp only [okE] at h
      cases e : asCall x with
      | none => rw [e] at h; cases h
      | some y => obtain ⟨_, _⟩ := y; obtain ⟨p, p2, rfl⟩ := asCall_some e; rfl) fun o y h => snd_lenv o h
  | .inv op a i => IH.both fun o y h => snd_inv o h ((allE a).se o)
  | .cmv op i a => IH.both fun o y h => snd_cmv o h ((allE a).se o)
  | .bi b es => IH.plain (fun {sc x} h => by
      simp only [okE] at h
      cases e : asCall x with
      | none => rw [e] at h; cases h
      | some y => obtain ⟨_, _⟩ := y; obtain ⟨p, p2, rfl⟩ := asCall_some e; rfl) fun o y h => snd_bi o h (allEs es o)
  | .joi a b => IH.plain (fun {sc x} h => by
      simp only [okE] at h
      cases e : asMeth x with
      | none => rw [e] at h; cases h
      | some y => obtain ⟨_, _, _⟩ := y; obtain ⟨p, p2, rfl, _⟩ := asMeth_some e; rfl) fun o y h => snd_joi h ((allE a).se o) ((allE b).se o)
  | .cal f es => IH.plain (fun {sc x} h => by
      simp only [okE] at h
      cases e : asCall x with
      | none => rw [e] at h; cases h
      | some y => obtain ⟨_, _⟩ := y; obtain ⟨p, p2, rfl⟩ := asCall_some e; rfl) fun o y h => snd_cal o h (allEs es o)
  | .car f i es => IH.plain (fun {sc x} h => by
      simp only [okE] at h
      cases e : asCall x with
      | none => rw [e] at h; cases h
      | some y => obtain ⟨_, _⟩ := y; obtain ⟨p, p2, rfl⟩ := asCall_some e; rfl) fun o y h => snd_car o h (allEs es o)
  | .lc elt t it c => IH.plain (fun {sc x} h => by
      simp only [okE] at h
      cases e : asLC x with
      | none => rw [e] at h; cases h
      | some y => obtain ⟨p, e2⟩ := asLC_some e; rw [e2]; rfl) fun o y h => snd_lc o h (allI it) (allE c) (allE elt)
  | .lc2 elt t it c t' it' c' => IH.plain (fun {sc x} h => by
      simp only [okE] at h
      cases e : asLC2 x with
      | none => rw [e] at h; cases h
      | some y => obtain ⟨p, e2⟩ := asLC2_some e; rw [e2]; rfl) fun o y h => snd_lc2 o h (allI it) (allE c) (allI it') (allE c') (allE elt)
  | .gen k elt t it c => IH.plain (fun {sc x} h => by
      simp only [okE] at h
      split at h
      · rename_i f y e
        obtain ⟨p, pos, rfl⟩ := asCall_some e
        rfl
      · cases h) fun o y h => snd_gen o h (allI it) (allE c) (allE elt)
  | .srs elt t it c => IH.plain (fun {sc x} h => by
      simp only [okE] at h
      split at h
      · rename_i f y e
        obtain ⟨p, pos, rfl⟩ := asCall_some e
        rfl
      · cases h) fun o y h => snd_srs o h (allI it) (allE c) (allE elt)
  | .dic es => IH.plain (fun {sc x} h => by
      simp only [okE] at h
      cases e : asDict x with
      | none => rw [e] at h; cases h
      | some y => obtain ⟨_, _, p, rfl, _⟩ := asDict_some e; rfl) fun o y h => snd_dic h fun B hB => allPs es o B hB
  | .dc kx vx t it c => IH.plain (fun {sc x} h => by
      simp only [okE] at h
      cases e : asDC x with
      | none => rw [e] at h; cases h
      | some y => obtain ⟨p, e2⟩ := asDC_some e; rw [e2]; rfl) fun o y h => snd_dc o h (allI it) (allE c) (allE kx) (allE vx)
  | .lrg a => IH.plain (fun {sc x} h => by
      simp only [okE] at h
      split at h
      · rename_i f y e
        obtain ⟨p, pos, rfl⟩ := asCall_some e
        rfl
      · cases h) fun o y h => snd_lrg o h ((allE a).se o)
  | .isi t a => IH.plain (fun {sc x} h => by
      simp only [okE] at h
      split at h
      · rename_i f y z e
        obtain ⟨p, pos, rfl⟩ := asCall_some e
        rfl
      · cases h) fun o y h => snd_isi o h ((allE a).se o)
  | .sme m a b => IH.plain (fun {sc x} h => by
      simp only [okE] at h
      split at h
      · rename_i f y z e
        obtain ⟨p, p2, rfl, _⟩ := asMeth_some e
        rfl
      · cases h) fun o y h => snd_sme h ((allE a).se o) ((allE b).se o)
  | .pop i => IH.plain (fun {sc x} h => by
      simp only [okE] at h
      split at h
      · rename_i f y e
        obtain ⟨p, p2, rfl, _⟩ := asMeth_some e
        rfl
      · cases h) fun o y h => snd_pop o h
  | .pop0 i => IH.plain (fun {sc x} h => by
      simp only [okE] at h
      split at h
      · rename_i f y z e
        obtain ⟨p, p2, rfl, _⟩ := asMeth_some e
        rfl
      · cases h) fun o y h => snd_pop0 o h
theorem allI {gi : GI} : ∀ it : I, IHI gi G tabs N it
  | .frz e => fun o tg y h => snd_frz ((allE e).se o y (by simp only [okI, Bool.and_eq_true] at h; exact h.2))
  | .mov i => fun o tg y h => snd_mov o (by simpa [okI] using h)
  | .rng es => fun o tg y h => snd_rng o h (allEs es o)
  | .enm e => fun o tg y h => by simp [okI] at h
  | .zip a b => fun o tg y h => by simp [okI] at h
  | .rev e => fun o tg y h => snd_rev o h ((allE e).se o)
theorem allPs {gi : GI} : ∀ (es : Es) {sc ts : Scope} {k : Nat} {X : Cx}, XOk gi G tabs N sc ts k X → ∀ (B : Bs), B.tabs = tabs → ∀ {pos : Pos} {ks : List (Option Expr)} {vs l : List Expr}, laced ks vs = some l → okEs gi N sc es l = true → PPs X pos ks vs (trsOf X.K B G es)
  | .nil, _, _, _, _, o, B, hB, pos, ks, vs, l, h, ho => by
    cases ks with
    | nil => cases vs with
      | nil => exact pps_nil
      | cons _ _ => cases h
    | cons a ks =>
      obtain ⟨_, _, q⟩ := laced_len h
      cases l with
      | nil => simp at q
      | cons _ _ => simp [okEs] at ho
  | .cons a .nil, _, _, _, _, o, B, hB, pos, ks, vs, l, h, ho => by
    obtain ⟨_, _, q⟩ := laced_len h
    cases l with
    | nil => simp [okEs] at ho
    | cons x l => cases l with
      | nil => simp at q; omega
      | cons y l => simp [okEs] at ho
  | .cons a (.cons b es), _, _, _, _, o, B, hB, pos, ks, vs, l, h, ho => by
    cases ks with
    | nil => cases vs with
      | nil => cases h; simp [okEs] at ho
      | cons _ _ => cases h
    | cons ka ks =>
      cases ka with
      | none => simp [laced] at h
      | some ka =>
        cases vs with
        | nil => simp [laced] at h
        | cons va vs =>
          simp only [laced] at h
          cases e : laced ks vs with
          | none => rw [e] at h; cases h
          | some r =>
            rw [e] at h
            cases h
            obtain ⟨_, h1, ho⟩ := okEs_cons ho
            obtain ⟨_, h2, ho⟩ := okEs_cons ho
            exact pps_cons ((allE a).se o ka h1 B hB) ((allE b).se o va h2 B hB) (allPs es o B hB e ho)
theorem allEs {gi : GI} : ∀ es : Es, IHs gi G tabs N es
  | .nil => fun o l h => by
    have : l = [] := by simpa [okEs] using h
    subst this
    exact snd_nil
  | .cons e es => fun o l h => by
    cases l with
    | nil => simp [okEs] at h
    | cons x l =>
      simp only [okEs, Bool.and_eq_true, Bool.not_eq_true'] at h
      exact snd_cons h.1.1 ((allE e).se o x h.1.2) (allEs es o l h.2)
end
end
end Gw

set_option Elab.async false
set_option linter.all false
set_option maxRecDepth 100000
set_option maxHeartbeats 2000000
/-! The value layer, part 15: statements. -/
namespace Gw
open PySem L2

/-! ### shapes -/
def asAsg : Stmt → Option (Expr × Expr × Pos)
  | .Assign [t] v p => some (t, v, p)
  | _ => none
theorem asAsg_some {s : Stmt} {t v : Expr} {p : Pos} (h : asAsg s = some (t, v, p)) : s = .Assign [t] v p := by
  cases s with
  | Assign ts v' p' =>
    match ts, h with
    | [t'], h => cases h; rfl
  | _ => simp [asAsg] at h
def asAug : Stmt → Option (Expr × Operator × Expr)
  | .AugAssign t o v _ => some (t, o, v)
  | _ => none
theorem asAug_some {s : Stmt} {t v : Expr} {o : Operator} (h : asAug s = some (t, o, v)) : ∃ p, s = .AugAssign t o v p := by
  cases s <;> simp [asAug] at h
  obtain ⟨rfl, rfl, rfl⟩ := h; exact ⟨_, rfl⟩
def asExp : Stmt → Option Expr
  | .Expr v _ => some v
  | _ => none
theorem asExp_some {s : Stmt} {v : Expr} (h : asExp s = some v) : ∃ p, s = .Expr v p := by
  cases s <;> simp [asExp] at h
  subst h; exact ⟨_, rfl⟩
def asRet : Stmt → Option Expr
  | .Return (some v) _ => some v
  | _ => none
theorem asRet_some {s : Stmt} {v : Expr} (h : asRet s = some v) : ∃ p, s = .Return (some v) p := by
  cases s with
  | Return o p =>
    match o, h with
    | some v', h => cases h; exact ⟨_, rfl⟩
  | _ => simp [asRet] at h
def asIfS : Stmt → Option (Expr × List Stmt × List Stmt)
  | .If c a b _ => some (c, a, b)
  | _ => none
theorem asIfS_some {s : Stmt} {c : Expr} {a b : List Stmt} (h : asIfS s = some (c, a, b)) : ∃ p, s = .If c a b p := by
  cases s <;> simp [asIfS] at h
  obtain ⟨rfl, rfl, rfl⟩ := h; exact ⟨_, rfl⟩
def asFor : Stmt → Option (Expr × Expr × List Stmt)
  | .For t i b [] _ => some (t, i, b)
  | _ => none
theorem asFor_some {s : Stmt} {t i : Expr} {b : List Stmt} (h : asFor s = some (t, i, b)) : ∃ p, s = .For t i b [] p := by
  cases s with
  | For t' i' b' o p =>
    match o, h with
    | [], h => cases h; exact ⟨_, rfl⟩
  | _ => simp [asFor] at h
def asWhl : Stmt → Option (Expr × List Stmt)
  | .While c b [] _ => some (c, b)
  | _ => none
theorem asWhl_some {s : Stmt} {c : Expr} {b : List Stmt} (h : asWhl s = some (c, b)) : ∃ p, s = .While c b [] p := by
  cases s with
  | While c' b' o p =>
    match o, h with
    | [], h => cases h; exact ⟨_, rfl⟩
  | _ => simp [asWhl] at h
def isBrk : Stmt → Bool
  | .Break _ => true
  | _ => false
def isCnt : Stmt → Bool
  | .Continue _ => true
  | _ => false
def isPas : Stmt → Bool
  | .Pass _ => true
  | _ => false
def namePos : Expr → Option (Str × Pos)
  | .Name x p => some (x, p)
  | _ => none
theorem namePos_some {e : Expr} {x : Str} {p : Pos} (h : namePos e = some (x, p)) : e = .Name x p := by
  cases e <;> simp [namePos] at h
  obtain ⟨rfl, rfl⟩ := h; rfl
def isLocal (sc : Scope) (x : Str) : Bool := match sc.names.lookup x with
  | some .local => true
  | _ => false
theorem isLocal_iff {sc : Scope} {x : Str} (h : isLocal sc x = true) : sc.names.lookup x = some .local := by
  unfold isLocal at h
  split at h
  · assumption
  · cases h
def compScope : Expr → Option Scope
  | .ListComp _ _ s _ => some s
  | .SetComp _ _ s _ => some s
  | .DictComp _ _ _ s _ => some s
  | _ => none
def swB (sc : Scope) (v : Expr) (y : Str) (py : Pos) : Bool := match compScope v with
  | some s => isLocal sc y && py.line == v.pos.line && !(s.names.any fun p => p.1 == y && (p.2 == .local || p.2 == .cell))
  | none => false
theorem swB_ok {env : PySem.Env} {v : Expr} {y : Str} {py : Pos} {l : Nat} (hk : env.scope.kind = .function) : swapsWith v (some (.Name y py)) l env = pure (swB env.scope v y py) := by
  have hb : env.blockKind = .function := by unfold Env.blockKind; rw [hk]; rfl
  have hl : (env.kindOf y == some .local) = isLocal env.scope y := by
    show (env.scope.names.lookup y == some .local) = _
    unfold isLocal
    cases e : env.scope.names.lookup y with
    | none => rfl
    | some q => cases q <;> rfl
  unfold swapsWith swB
  cases v <;> simp only [compScope, hb, hl] <;> rfl
def swNm (sc : Scope) (line : Nat) : Expr → Option Str
  | .Name id pos => if isLocal sc id && pos.line == line then some id else none
  | _ => none
def swapB (sc : Scope) (tg value : Expr) : Option (Option (List Str)) := match asTup tg, asTup value with
  | some ts, some vs =>
    if !(ts.length == 2 || ts.length == 3) || vs.length != ts.length then some none else
    if vs.any isStar then some none else
    if (ts.filterMap (swNm sc ((ts.head?.map (·.pos.line)).getD 0))).length != ts.length || (ts.filterMap (swNm sc ((ts.head?.map (·.pos.line)).getD 0))).eraseDups.length != (ts.filterMap (swNm sc ((ts.head?.map (·.pos.line)).getD 0))).length then some none else
    if vs.all (foldedForSure 8) then some none else
    if vs.all (constantsAlone 8) then none else some (some (ts.filterMap (swNm sc ((ts.head?.map (·.pos.line)).getD 0))))
  | some _, none => some none
  | none, _ => none
theorem swapB_ok {env : PySem.Env} {tg v : Expr} {r : Option (List Str)} (hk : env.scope.kind = .function) (h : swapB env.scope tg v = some r) : swappedStores [tg] v env = pure r := by
  have hb : env.blockKind = .function := by unfold Env.blockKind; rw [hk]; rfl
  unfold swapB at h
  cases e1 : asTup tg with
  | none => rw [e1] at h; cases h
  | some ts =>
    obtain ⟨k1, p1, rfl⟩ := asTup_some e1
    cases e2 : asTup v with
    | none =>
      rw [e1, e2] at h
      cases h
      cases v <;> first | rfl | (simp [asTup] at e2)
    | some vs =>
      obtain ⟨k2, p2, rfl⟩ := asTup_some e2
      rw [e1, e2] at h
      have hn : (fun x : Expr => match x with | .Name id pos => if env.kindOf id == some .local && pos.line == (ts.head?.map (·.pos.line)).getD 0 then some id else none | _ => none) = swNm env.scope ((ts.head?.map (·.pos.line)).getD 0) := by
        funext x
        cases x with
        | Name id pos =>
          have hl : (env.kindOf id == some .local) = isLocal env.scope id := by
            show (env.scope.names.lookup id == some .local) = _
            unfold isLocal
            cases e : env.scope.names.lookup id with
            | none => rfl
            | some q => cases q <;> rfl
          simp only [swNm, hl]
        | _ => rfl
      have hst : (fun x : Expr => match x with | .Starred .. => true | _ => false) = isStar := by
        funext x; cases x <;> rfl
      simp only [] at h
      show (if (!(ts.length == 2 || ts.length == 3) || vs.length != ts.length || env.blockKind != .function) = true then (pure none : Sem (Option (List Str))) else if (vs.any fun x => match x with | .Starred .. => true | _ => false) = true then pure none else _) = _
      rw [hst, hb]
      by_cases c1 : (!(ts.length == 2 || ts.length == 3) || vs.length != ts.length) = true
      · rw [if_pos c1] at h
        cases h
        rw [if_pos (by rw [c1]; rfl)]
      · rw [if_neg c1] at h
        rw [if_neg (by intro z; apply c1; simpa using z)]
        by_cases c2 : vs.any isStar = true
        · rw [if_pos c2] at h
          cases h
          rw [if_pos c2]
        · rw [if_neg c2] at h
          rw [if_neg c2]
          obtain ⟨f, hf⟩ : ∃ f : Expr → Option Str, f = (fun x : Expr => match x with | .Name id pos => if env.kindOf id == some .local && pos.line == (ts.head?.map (·.pos.line)).getD 0 then some id else none | _ => none) := ⟨_, rfl⟩
          have goal : (if ((ts.filterMap f).length != ts.length || (ts.filterMap f).eraseDups.length != (ts.filterMap f).length) = true then (pure none : Sem (Option (List Str))) else if vs.all (foldedForSure 8) = true then pure none else (if vs.all (constantsAlone 8) = true then (do let _ ← unsupported (α := Unit) "assign.tuple-of-constant-expressions:order-of-the-stores"; pure (some (ts.filterMap f))) else pure (some (ts.filterMap f)))) = pure r := by
            rw [hf, hn]
            split at h
            · rename_i c3
              cases h
              rw [if_pos c3]
            · rename_i c3
              rw [if_neg c3]
              split at h
              · rename_i c4
                cases h
                rw [if_pos c4]
              · rename_i c4
                rw [if_neg c4]
                split at h
                · cases h
                · rename_i c5
                  cases h
                  rw [if_neg c5]
          rw [hf] at goal
          exact goal
end Gw

set_option Elab.async false
set_option linter.all false
set_option maxRecDepth 100000
set_option maxHeartbeats 4000000
/-! The value layer, part 16: statements run as the small syntax says. -/
namespace Gw
open PySem L2

mutual
def okS (gi : GI) (N : List Str) (sc : Scope) : S → Stmt → Bool
  | .asg i e, st => match asAsg st with
    | some (t, v, _) => match namePos t with
      | some (y, py) => decide (N[i]? = some y) && isLoc sc y && okE gi N sc e v && (match e with
          | .lc _ _ _ _ => true
          | .lc2 _ _ _ _ _ _ _ => true
          | _ => !swB sc v y py)
      | none => false
    | none => false
  | .par is es, st => match asAsg st with
    | some (t, v, _) => match asTup t, asTup v, swapB sc t v with
      | some ts, some vs, some (some nms) => decide (is.map (fun i => N[i]?) = nms.map some) && decide (ts.map asName = nms.map some) && decide is.Nodup && decide (vs.length = is.length) && (decide (is.length = 2) || decide (is.length = 3)) && nms.all (isLocal sc) && okEs gi N sc es vs
      | _, _, _ => false
    | none => false
  | .unp t e, st => match asAsg st with
    | some (tg, v, _) => (asTup tg).isSome && okT N sc t tg && okE gi N sc e v && decide (swapB sc tg v = some none)
    | none => false
  | .aug i op e, st => match asAug st with
    | some (t, o, v) => match asName t with
      | some y => decide (N[i]? = some y) && isLoc sc y && decide (o = bopP op) && okE gi N sc e v
      | none => false
    | none => false
  | .set i k e, st => match asAsg st with
    | some (t, v, _) => match asSub t with
      | some (o, x) => okV N sc i o && okE gi N sc k x && okE gi N sc e v
      | none => false
    | none => false
  | .exp e, st => match asExp st with
    | some x => isCallE x && okE gi N sc e x
    | none => false
  | .app i e, st => match asExp st with
    | some x => match asMeth x with
      | some (o, m, [y]) => decide (m = ("append" : Str)) && okV N sc i o && !isStar y && okE gi N sc e y
      | _ => false
    | none => false
  | .ext i e, st => match asExp st with
    | some x => match asMeth x with
      | some (o, m, [y]) => decide (m = ("extend" : Str)) && okV N sc i o && !isStar y && okE gi N sc e y
      | _ => false
    | none => false
  | .ret e, st => match asRet st with
    | some x => okE gi N sc e x
    | none => false
  | .ife c a b, st => match asIfS st with
    | some (x, l, r) => okE gi N sc c x && okSs gi N sc a l && okSs gi N sc b r
    | none => false
  | .fors t it b, st => match asFor st with
    | some (tg, x, l) => okI gi N sc it x tg && okT N sc t tg && okSs gi N sc b l
    | none => false
  | .whl _ c b, st => match asWhl st with
    | some (x, l) => okE gi N sc c x && okSs gi N sc b l
    | none => false
  | .brk, st => isBrk st
  | .cont, st => isCnt st
  | .pass, st => isPas st
  | .bad, _ => true
def okSs (gi : GI) (N : List Str) (sc : Scope) : Ss → List Stmt → Bool
  | .nil, l => l.isEmpty
  | .cons s ss, l => match l with
    | x :: r => okS gi N sc s x && okSs gi N sc ss r
    | [] => false
end

def EndsOk (K : PySem.W.Frag) (B : Bs) (D : Ends) (ts : List Sl) (vs : List (Option V)) : Fl → Prop
  | .nx ρ' => ∀ σ' H', ρ'.length = List.length σ' → R K B (ρ' ++ ts) (σ' ++ vs) H' → D.nx σ' H'
  | .bk ρ' => ∀ σ' H', ρ'.length = List.length σ' → R K B (ρ' ++ ts) (σ' ++ vs) H' → D.bk σ' H'
  | .ct ρ' => ∀ σ' H', ρ'.length = List.length σ' → R K B (ρ' ++ ts) (σ' ++ vs) H' → D.ct σ' H'
  | .rt r ρ' => ∀ σ' v H', ρ'.length = List.length σ' → R K B (ρ' ++ ts ++ [r.sl]) (σ' ++ vs ++ [some v]) H' → D.rt v H'
def tSt (K : PySem.W.Frag) (B : Bs) (F : Env → Res Fl) : TS := fun D σ H => ∃ (ρ : Env) (ts : List Sl) (vs : List (Option V)) (fl : Fl), R K B (ρ ++ ts) (σ ++ vs) H ∧ ρ.length = σ.length ∧ F ρ = .ok fl ∧ EndsOk K B D ts vs fl
def SS (tabs : List Addr) (X : Cx) (st : Stmt) (F : Env → Res Fl) : Prop := ∀ B : Bs, B.tabs = tabs → PS X st (tSt X.K B F)
def SSs (tabs : List Addr) (X : Cx) (st : List Stmt) (F : Env → Res Fl) : Prop := ∀ B : Bs, B.tabs = tabs → PSs X st (tSt X.K B F)
structure SOk (gi : GI) (G : Glo) (tabs : List Addr) (N : List Str) (sc : Scope) (k : Nat) (X : Cx) : Prop where
  x : XOk gi G tabs N sc sc k X
  kind : sc.kind = .function
  hp : PassesOwn (model X.prog X.w) X.A X.env X.xe

section
variable {K : PySem.W.Frag} {B : Bs} {ρ : Env} {ts uu : List Sl} {σ vs ws : List (Option V)} {H : Hp}
theorem R.storeMid {i : Nat} {s : Sl} {v : Option V} (r : R K B (ρ ++ ts ++ [s] ++ uu) (σ ++ vs ++ [v] ++ ws) H) (hl : ρ.length = σ.length) (ht : ts.length = vs.length) (hi : i < ρ.length) (hn : ∀ e, ρ.at i ≠ .ref e) (hs : ∀ d, s ≠ .ref d) (hu : ∀ t ∈ uu, ∀ d, t ≠ .ref d) :
    R K B (ρ.set i s ++ ts ++ uu) (σ.set i v ++ vs ++ ws) H := by
  have hw : uu.length = ws.length := by have := r.len; simp at this; omega
  let n := ρ.length + ts.length
  have e1 : ∀ {α : Type} {a b c : List α} {x : α} {j : Nat}, (a ++ b).length = n → j < n → (a ++ b ++ [x] ++ c)[j]? = (a ++ b)[j]? := fun {α a b c x j} h1 h2 => by
    rw [List.append_assoc, List.getElem?_append_left (by omega)]
  have e2 : ∀ {α : Type} {a b c : List α} {x : α}, (a ++ b).length = n → (a ++ b ++ [x] ++ c)[n]? = some x := fun {α a b c x} h1 => by
    rw [List.getElem?_append_left (by simp at h1 ⊢; omega), ← h1]; exact getEnd _ _
  have e3 : ∀ {α : Type} {a b c : List α} {x : α} {j : Nat}, (a ++ b).length = n → n ≤ j → (a ++ b ++ [x] ++ c)[j + 1]? = c[j - n]? := fun {α a b c x j} h1 h2 => by
    rw [List.getElem?_append_right (by simp at h1 ⊢; omega)]
    congr 1
    simp at h1 ⊢; omega
  have ln1 : (ρ ++ ts).length = n := by simp [n]
  have ln2 : (σ ++ vs).length = n := by simp [n]; omega
  refine r.sel (fun j => if j = i then n else if j < n then j else j + 1) (by simp; omega) (fun j t h => .inr ?_) (fun a b s1 t1 h1 h2 o1 o2 e => ?_) (fun j d h => ?_) fun j d h => ?_
  · rcases getA h with ⟨hj, h1⟩ | ⟨hj, h1⟩
    · have hj' : j < n := by simpa [n] using hj
      rw [← set_left hi] at h1
      rcases getSet h1 with ⟨rfl, rfl⟩ | ⟨ne, h1⟩
      · rw [if_pos rfl, e2 ln1, e2 ln2]
        refine ⟨rfl, ?_⟩
        rw [List.append_assoc, List.getElem?_append_left (by simp; omega), List.getElem?_set_self (by omega)]
      · rw [if_neg ne, if_pos hj', e1 ln1 hj', e1 ln2 hj']
        refine ⟨h1, ?_⟩
        rw [List.getElem?_append_left (by simp; omega), ← set_left (by omega), List.getElem?_set_ne (Ne.symm ne)]
    · have hj' : n ≤ j := by simpa [n] using hj
      have hni : j ≠ i := by omega
      rw [if_neg hni, if_neg (by omega), e3 ln1 hj', e3 ln2 hj']
      have q1 : (ρ.set i s ++ ts).length = n := by simp [n]
      have q2 : (σ.set i v ++ vs).length = n := by simp [n]; omega
      rw [q1] at h1
      refine ⟨h1, ?_⟩
      rw [List.getElem?_append_right (by omega), q2]
  · have hin : i < n := by omega
    by_cases ha : a = i <;> by_cases hb : b = i <;> simp only [ha, hb, if_true, if_false] at e ⊢
    · split at e <;> omega
    · split at e <;> omega
    · split at e <;> split at e <;> omega
  · rcases getA h with ⟨hj, h1⟩ | ⟨hj, h1⟩
    · rw [← set_left hi] at h1
      rcases getSet h1 with ⟨rfl, e⟩ | ⟨ne, h1⟩
      · exact (hs d e.symm).elim
      · have hj' : j < n := by simpa [n] using hj
        rw [if_neg ne, if_pos hj']
    · exact (hu _ (List.mem_of_getElem? h1) d rfl).elim
  · rw [List.append_assoc] at h
    rcases getA h with ⟨hj, h1⟩ | ⟨hj, h1⟩
    · refine getL ?_
      rw [← set_left hi]
      by_cases e : i = j
      · subst e
        rw [get_left hi, at_get hi] at h1
        exact (hn d (Option.some.inj h1)).elim
      · rw [List.getElem?_set_ne e]; exact h1
    · rcases getA h1 with ⟨hj2, h2⟩ | ⟨hj2, h2⟩
      · have := List.mem_of_getElem? h2
        simp at this
        exact (hs d this.symm).elim
      · exact (hu _ (List.mem_of_getElem? h2) d rfl).elim
def setV : List Nat → List V → List (Option V) → List (Option V)
  | i :: is, v :: vs, σ => setV is vs (σ.set i (some v))
  | _, _, σ => σ
theorem R.storeAll : ∀ {is : List Nat} {rs : List Rv} {us : List V} {ρ ρ' : Env} {σ : List (Option V)}, setAll is rs ρ = some ρ' → R K B (ρ ++ ts ++ rs.map Rv.sl) (σ ++ vs ++ us.map some) H → ρ.length = σ.length → ts.length = vs.length → (∀ i ∈ is, i < ρ.length) → us.length = rs.length →
    R K B (ρ' ++ ts) (setV is us σ ++ vs) H ∧ ρ'.length = (setV is us σ).length
  | [], [], us, ρ, ρ', σ, h, r, hl, ht, hi, hu => by
    have : us = [] := by simpa using hu
    subst this
    simp only [setAll] at h
    cases h
    refine ⟨?_, hl⟩
    show R K B (ρ ++ ts) (σ ++ vs) H
    simpa using r
  | [], _ :: _, _, _, _, _, h, _, _, _, _, _ => by simp [setAll] at h
  | _ :: _, [], _, _, _, _, h, _, _, _, _, _ => by simp [setAll] at h
  | i :: is, x :: rs, [], _, _, _, h, _, _, _, _, hu => by simp at hu
  | i :: is, x :: rs, u :: us, ρ, ρ', σ, h, r, hl, ht, hi, hu => by
    simp only [setAll] at h
    split at h
    · cases h
    · rename_i ρ9 hput
      obtain ⟨hn, rfl⟩ := R.put_ok (ts := ts ++ (x :: rs).map Rv.sl) (by simpa using r) hput
      have r' : R K B (ρ ++ ts ++ [x.sl] ++ rs.map Rv.sl) (σ ++ vs ++ [some u] ++ us.map some) H := by simpa using r
      have q := r'.storeMid (i := i) hl ht (hi i List.mem_cons_self) (fun e z => hn e z) (fun d => x.noref d) (fun t ht d => by
        obtain ⟨y, _, rfl⟩ := List.mem_map.mp ht
        exact y.noref d)
      exact R.storeAll (is := is) (rs := rs) (us := us) h q (by simp [hl]) ht (fun j hj => by rw [List.length_set]; exact hi j (List.mem_cons_of_mem _ hj)) (by simpa using hu)
end
section
variable {gi : GI} {G : Glo} {tabs : List Addr} {N : List Str} {sc : Scope} {k : Nat} {X : Cx}
theorem set_len {ρ ρ' : Env} {ts : List Sl} {vs σ σ' : List (Option V)} {H H' : Hp} {K : PySem.W.Frag} {B : Bs} (r : R K B (ρ ++ ts) (σ ++ vs) H) (r' : R K B (ρ' ++ ts) (σ' ++ vs) H') (h : ρ.length = σ.length) : ρ'.length = σ'.length := by
  have a := r.len; have b := r'.len; simp at a b; omega
theorem asg_read {B : Bs} {F : Env → Res (Rv × Env)} {i : Nat} {D : Ends} {σ : L2.St} {H : Hp} (hi : i < N.length) (hN : ∀ ρ : Env, ρ.length = σ.length → i < ρ.length)
    (h : tSt X.K B (fun ρ => (F ρ).bind fun p => (Res.of (p.2.put i p.1.sl)).bind fun ρ' => .ok (.nx ρ')) D σ H) : tAsg (tE X.K B F) (gName i) D σ H := by
  obtain ⟨ρ, tt, vs, fl, hR, hl, hF, hE⟩ := h
  obtain ⟨⟨r, ρ1⟩, g1, hF⟩ := Res.bind_ok hF
  refine ⟨ρ, tt, vs, r, ρ1, hR, hl, g1, fun v H1 R1 => ?_⟩
  have l1 : ρ1.length = σ.length := by have a := hR.len; have b := R1.len; simp at a b; omega
  simp only at hF
  obtain ⟨ρ9, hput, hF⟩ := Res.bind_ok hF
  cases hF
  obtain ⟨hn, rfl⟩ := R.put_ok (ts := tt ++ [r.sl]) (by simpa using R1) (Res.of_ok hput)
  have q := R1.store (i := i) (t := ρ1.at i) (fun d => r.noref d) (getL (at_get (hN ρ1 l1))) (fun d e => hn d e)
  rw [set_left (hN ρ1 l1), set_left (by rw [← l1]; exact hN ρ1 l1)] at q
  exact hE _ H1 (by simp [l1]) q
/-- += and -= -/
def ipD (K : PySem.W.Frag) (op : Bop) : TIp := fun x y H Q => ∃ (B : Bs) (ss : List Sl) (vs : List (Option V)) (d e r : D), R K B ss vs H ∧ Rp K (Mt B.Z ss vs) H x d ∧ Rp K (Mt B.Z ss vs) H y e ∧ dAug op d e = some r ∧ ∀ u H', R K B (ss ++ [.val r]) (vs ++ [some u]) H' → Q u H'
theorem ipd (op : Bop) : PIp X (bopP op) (ipD X.K op) := by
  intro pins s σ H x y v u Q I rx ry h
  obtain ⟨B, ss, vs, d, e, r, hR, hx, hy, hd, hQ⟩ := h
  cases op with
  | add =>
    cases d <;> cases e <;> simp only [dAug] at hd <;> first | (cases hd; done) | skip
    · cases hd
      exact in_add pins s σ H x y v u Q I rx ry ⟨_, _, hx.intV, hy.intV, hQ _ H (hR.push_val (.int _))⟩
    · rename_i a b
      by_cases hz : lineOk (a.length + b.length) = true
      · rw [if_pos hz] at hd
        cases hd
        refine in_addS pins s σ H x y v u Q I rx ry ⟨_, _, hx.strV, hy.strV, by rw [mkS_len, mkS_len]; exact lineOk_iff hz, ?_⟩
        rw [mkS_app]
        exact hQ _ H (hR.push_val (.str _))
      · rw [if_neg hz] at hd; cases hd
  | sub =>
    cases d <;> cases e <;> simp only [dAug] at hd <;> first | (cases hd; done) | skip
    cases hd
    exact in_sub pins s σ H x y v u Q I rx ry ⟨_, _, hx.intV, hy.intV, hQ _ H (hR.push_val (.int _))⟩
  | _ => cases d <;> cases e <;> simp [dAug] at hd

/-! ### one by one -/
theorem len2 {α : Type} {l : List α} (h : l.length = 2) : ∃ a b, l = [a, b] := by
  match l, h with
  | [a, b], _ => exact ⟨a, b, rfl⟩
theorem len3 {α : Type} {l : List α} (h : l.length = 3) : ∃ a b c, l = [a, b, c] := by
  match l, h with
  | [a, b, c], _ => exact ⟨a, b, c, rfl⟩
theorem SOk.lt (o : SOk gi G tabs N sc k X) {i : Nat} {y : Str} (h : N[i]? = some y) {pins : List (Addr × Obj)} {s : Shared} {σ : L2.St} {H : Hp} (I : L2.Inv X pins σ H s) : ∀ ρ : Env, ρ.length = σ.length → i < ρ.length := fun ρ hl => by
  rw [hl, I.len, o.x.hN]; exact lt_of_get h
theorem sst_asg (o : SOk gi G tabs N sc k X) {i : Nat} {e : E} {st : Stmt} (h : okS gi N sc (.asg i e) st = true) : SS tabs X st (runS G (.asg i e)) := fun B hB => by
  simp only [okS] at h
  cases e1 : asAsg st with
  | none => rw [e1] at h; cases h
  | some z =>
    obtain ⟨t, v, p⟩ := z
    rw [e1] at h
    cases asAsg_some e1
    cases e2 : namePos t with
    | none => simp only [e2] at h; cases h
    | some w =>
      obtain ⟨y, py⟩ := w
      simp only [e2] at h
      cases namePos_some e2
      simp only [Bool.and_eq_true, decide_eq_true_eq] at h
      obtain ⟨⟨⟨h1, h2⟩, h3⟩, h4⟩ := h
      have hk : X.env.scope.kind = .function := by rw [o.x.sc]; exact o.kind
      have sw := swB_ok (v := v) (y := y) (py := py) (l := p.line) hk
      obtain ⟨f1, f2⟩ := o.x.fnm y h2
      have rd : ∀ D σ H, (∀ ρ : Env, ρ.length = σ.length → i < ρ.length) → tSt X.K B (runS G (.asg i e)) D σ H → tAsg (tE X.K B (runE G e)) (gName i) D σ H := fun D σ H hi hq => asg_read (N := N) (lt_of_get h1) hi (by
        obtain ⟨ρ, tt, vs, fl, a1, a2, a3, a4⟩ := hq
        refine ⟨ρ, tt, vs, fl, a1, a2, ?_, a4⟩
        simp only [runS] at a3
        exact a3)
      have fin : PS X (.Assign [.Name y py] v p) (tAsg (tE X.K B (runE G e)) (gName i)) → PS X (.Assign [.Name y py] v p) (tSt X.K B (runS G (.asg i e))) := fun q =>
        ⟨fun pins s σ H D I hq => q.run pins s σ H D I (rd D σ H (o.lt h1 I) hq)⟩
      by_cases hs : swB X.env.scope v y py = true
      · rw [hs] at sw
        have hl : sc.names.lookup y = some .local := by
          unfold swB at hs
          split at hs
          · simp only [Bool.and_eq_true] at hs
            have := isLocal_iff hs.1.1
            rw [o.x.sc] at this; exact this
          · cases hs
        rw [o.x.sc] at hs
        cases e with
        | lc elt t it c => exact fin (snd_setLc o.x h3 (allI it) (allE c) (allE elt) h1 hl sw B hB)
        | lc2 elt t it c t' it' c' => exact fin (snd_setLc2 o.x h3 (allI it) (allE c) (allI it') (allE c') (allE elt) h1 hl sw B hB)
        | _ => simp [hs] at h4
      · have hs' : swB X.env.scope v y py = false := by simpa using hs
        rw [hs'] at sw
        exact fin (ps_set (by rw [o.x.hN]; exact o.x.nd) (by rw [o.x.hN]; exact h1) f1 ((allE e).se o.x v h3 B hB) sw f2)
theorem sst_par (o : SOk gi G tabs N sc k X) {is : List Nat} {es : Es} {st : Stmt} (h : okS gi N sc (.par is es) st = true) : SS tabs X st (runS G (.par is es)) := fun B hB => by
  simp only [okS] at h
  cases e1 : asAsg st with
  | none => rw [e1] at h; cases h
  | some z =>
    obtain ⟨t, v, p⟩ := z
    rw [e1] at h
    cases asAsg_some e1
    simp only at h
    split at h
    · rename_i ts vs nms q1 q2 q3
      simp only [Bool.and_eq_true, decide_eq_true_eq, Bool.or_eq_true] at h
      obtain ⟨⟨⟨⟨⟨⟨h1, h2⟩, h3⟩, h4⟩, h5⟩, h6⟩, h7⟩ := h
      have hk : X.env.scope.kind = .function := by rw [o.x.sc]; exact o.kind
      rw [← o.x.sc] at q3
      have sw := swapB_ok hk q3
      obtain ⟨k1, p1, rfl⟩ := asTup_some q1
      obtain ⟨k2, p2, rfl⟩ := asTup_some q2
      have nd : X.N.Nodup := by rw [o.x.hN]; exact o.x.nd
      have lc : ∀ x ∈ nms, X.env.scope.names.lookup x = some .local := fun x hx => by
        rw [o.x.sc]; exact isLocal_iff (List.all_eq_true.mp h6 x hx)
      have rd : ∀ D σ H (Q : List V → Hp → Prop), tSt X.K B (runS G (.par is es)) D σ H → (∀ ρ : Env, ρ.length = σ.length → ∀ i ∈ is, i < ρ.length) → (∀ us H', us.length = vs.length → D.nx (setV is us σ) H' → Q us H') → tAs X.K B (runEs G es) σ H Q := fun D σ H Q hq hi hQ => by
        obtain ⟨ρ, tt, ws, fl, a1, a2, a3, a4⟩ := hq
        simp only [runS] at a3
        obtain ⟨⟨rs, ρ1⟩, g1, a3⟩ := Res.bind_ok a3
        obtain ⟨ρ2, g2, a3⟩ := Res.bind_ok a3
        cases a3
        refine ⟨ρ, tt, ws, rs, ρ1, a1, a2, g1, fun us H1 hu R1 => ?_⟩
        have l1 : ρ1.length = σ.length := by have a := a1.len; have b := R1.len; simp at a b; omega
        have lt : tt.length = ws.length := by have a := a1.len; simp at a; omega
        obtain ⟨q, q'⟩ := R1.storeAll (is := is) (Res.of_ok g2) l1 lt (hi ρ1 l1) hu
        exact hQ us H1 (by rw [hu, runEs_len g1 h7]) (a4 _ H1 q' q)
      have lti : ∀ (pins : List (Addr × Obj)) (s : Shared) (σ : L2.St) (H : Hp), L2.Inv X pins σ H s → ∀ ρ : Env, ρ.length = σ.length → ∀ i ∈ is, i < ρ.length := fun _ _ _ _ I ρ hl i hi => by
        have : N[i]? ∈ is.map (fun i => N[i]?) := List.mem_map.mpr ⟨i, hi, rfl⟩
        rw [h1] at this
        obtain ⟨y, _, hy⟩ := List.mem_map.mp this
        exact o.lt hy.symm I ρ hl
      rcases h5 with h5 | h5
      · have ln : nms.length = 2 := by have := congrArg List.length h1; simp at this; omega
        have lt' : ts.length = 2 := by have := congrArg List.length h2; simp at this; omega
        obtain ⟨i, j, rfl⟩ := len2 h5
        obtain ⟨x, y, rfl⟩ := len2 ln
        obtain ⟨t1, t2, rfl⟩ := len2 lt'
        obtain ⟨a, b, rfl⟩ := len2 (h4.trans h5)
        simp only [List.map_cons, List.map_nil, List.cons.injEq, and_true] at h1 h2
        obtain ⟨pa, rfl⟩ := asName_some h2.1
        obtain ⟨pb, rfl⟩ := asName_some h2.2
        have hij : i ≠ j := by simpa using h3
        refine ⟨fun pins s σ H D I hq => (ps_par o.x.calm nd (by rw [o.x.hN]; exact h1.1) (by rw [o.x.hN]; exact h1.2) hij (lc x (by simp)) (lc y (by simp)) (allEs es o.x [a, b] h7 B hB) sw).run pins s σ H D I (rd D σ H _ hq (lti _ _ _ _ I) fun us H' hu hn => ?_)⟩
        obtain ⟨v, w, rfl⟩ := len2 hu
        exact ⟨v, w, rfl, hn⟩
      · have ln : nms.length = 3 := by have := congrArg List.length h1; simp at this; omega
        have lt' : ts.length = 3 := by have := congrArg List.length h2; simp at this; omega
        obtain ⟨i, j, l, rfl⟩ := len3 h5
        obtain ⟨x, y, z, rfl⟩ := len3 ln
        obtain ⟨t1, t2, t3, rfl⟩ := len3 lt'
        obtain ⟨a, b, c, rfl⟩ := len3 (h4.trans h5)
        simp only [List.map_cons, List.map_nil, List.cons.injEq, and_true] at h1 h2
        obtain ⟨pa, rfl⟩ := asName_some h2.1
        obtain ⟨pb, rfl⟩ := asName_some h2.2.1
        obtain ⟨pc, rfl⟩ := asName_some h2.2.2
        have hij : (i ≠ j ∧ i ≠ l) ∧ j ≠ l := by simpa using h3
        refine ⟨fun pins s σ H D I hq => (ps_par3 o.x.calm nd (by rw [o.x.hN]; exact h1.1) (by rw [o.x.hN]; exact h1.2.1) (by rw [o.x.hN]; exact h1.2.2) hij.1.1 hij.1.2 hij.2 (lc x (by simp)) (lc y (by simp)) (lc z (by simp)) (allEs es o.x [a, b, c] h7 B hB) sw).run pins s σ H D I (rd D σ H _ hq (lti _ _ _ _ I) fun us H' hu hn => ?_)⟩
        obtain ⟨v, w, u, rfl⟩ := len3 hu
        exact ⟨v, w, u, rfl, hn⟩
    · cases h
theorem sst_unp (o : SOk gi G tabs N sc k X) {t : T} {e : E} {st : Stmt} (h : okS gi N sc (.unp t e) st = true) : SS tabs X st (runS G (.unp t e)) := fun B hB => by
  simp only [okS] at h
  cases e1 : asAsg st with
  | none => rw [e1] at h; cases h
  | some z =>
    obtain ⟨tg, v, p⟩ := z
    rw [e1] at h
    cases asAsg_some e1
    simp only [Bool.and_eq_true, decide_eq_true_eq] at h
    obtain ⟨⟨⟨h1, h2⟩, h3⟩, h4⟩ := h
    have hk : X.env.scope.kind = .function := by rw [o.x.sc]; exact o.kind
    rw [← o.x.sc] at h4
    have sw := swapB_ok hk h4
    cases e2 : asTup tg with
    | none => rw [e2] at h1; cases h1
    | some ts =>
      obtain ⟨k1, p1, rfl⟩ := asTup_some e2
      have hsl : swapsWithSole [.Tuple ts k1 p1] v p.line X.env = pure false := by
        unfold swapsWithSole swapsWith
        cases v <;> rfl
      refine (ps_asg ((allE e).se o.x v h3 B hB) (pg_ok o.x B t _ h2) hsl sw rfl).imp fun D σ H hq => ?_
      obtain ⟨ρ, tt, vs, fl, a1, a2, a3, a4⟩ := hq
      simp only [runS] at a3
      obtain ⟨⟨r, ρ1⟩, g1, a3⟩ := Res.bind_ok a3
      obtain ⟨ρ2, g2, a3⟩ := Res.bind_ok a3
      cases a3
      refine ⟨ρ, tt, vs, r, ρ1, a1, a2, g1, fun x H1 R1 => ?_⟩
      have l1 : ρ1.length = σ.length := by have a := a1.len; have b := R1.len; simp at a b; omega
      refine ⟨ρ1, tt, vs, r.d, ρ2, R1.frzTop, l1, Res.of_ok g2, fun σ' H' s1 _ R2 => a4 σ' H' (set_len a1 R2 a2) R2⟩
theorem sst_aug (o : SOk gi G tabs N sc k X) {i : Nat} {op : Bop} {e : E} {st : Stmt} (h : okS gi N sc (.aug i op e) st = true) : SS tabs X st (runS G (.aug i op e)) := fun B hB => by
  simp only [okS] at h
  cases e1 : asAug st with
  | none => rw [e1] at h; cases h
  | some z =>
    obtain ⟨t, oo, v⟩ := z
    rw [e1] at h
    obtain ⟨p, rfl⟩ := asAug_some e1
    cases e2 : asName t with
    | none => simp only [e2] at h; cases h
    | some y =>
      simp only [e2] at h
      obtain ⟨py, rfl⟩ := asName_some e2
      simp only [Bool.and_eq_true, decide_eq_true_eq] at h
      obtain ⟨⟨⟨h1, h2⟩, rfl⟩, h3⟩ := h
      obtain ⟨f1, f2⟩ := o.x.fnm y h2
      refine (ps_aug (by rw [o.x.hN]; exact o.x.nd) (by rw [o.x.hN]; exact h1) f1 ((allE e).se o.x v h3 B hB) (ipd op) f2).imp fun D σ H hq => ?_
      obtain ⟨ρ, tt, vs, fl, a1, a2, a3, a4⟩ := hq
      simp only [runS] at a3
      cases ei : ρ.at i with
      | val d =>
        rw [ei] at a3
        simp only at a3
        obtain ⟨⟨r, ρ1⟩, g1, a3⟩ := Res.bind_ok a3
        obtain ⟨d', g2, a3⟩ := Res.bind_ok a3
        have g2 : dAug op d r.d = some d' := Res.of_ok g2
        have gi1 := at_some ei (by intro z; cases z)
        have hi := lt_of_get gi1
        obtain ⟨v0, k1, k2⟩ := a1.val i d (getL gi1)
        rw [get_left (by omega)] at k1
        refine ⟨v0, k1, ρ, tt ++ [(Rv.val d).sl], vs ++ [some v0], r, ρ1, by rw [← List.append_assoc, ← List.append_assoc]; exact a1.push_val k2, a2, g1, fun x H1 R1 => ?_⟩
        have R1' : R X.K B ((ρ1 ++ tt) ++ [(Rv.val d).sl] ++ [r.sl]) ((σ ++ vs) ++ [some v0] ++ [some x]) H1 := by simpa using R1
        obtain ⟨q0, q1, q2⟩ := R1'.take2
        have l1 : ρ1.length = σ.length := set_len a1 q0 a2
        refine ⟨B, _, _, d, r.d, d', q0, q1, q2, g2, fun u H2 R2 => ?_⟩
        simp only at a3
        split at a3
        · rename_i w ew
          cases a3
          have q := R2.storeT (i := i) l1 (by omega) (fun z hz => by rw [ew] at hz; cases hz)
          exact a4 _ H2 (by simp [l1]) q
        · cases a3
      | _ => rw [ei] at a3; cases a3
end
end Gw

set_option Elab.async false
set_option linter.all false
set_option maxRecDepth 100000
set_option maxHeartbeats 4000000
/-! The value layer, part 17: the rest of the statements. -/
namespace Gw
open PySem L2
section
variable {gi : GI} {G : Glo} {tabs : List Addr} {N : List Str} {sc : Scope} {k : Nat} {X : Cx}
def rSetO : TSet := fun o i v H Q => rSetL o i v H Q ∨ rSetD o i v H Q
theorem set_or (hu : X.A.units + 1 < cLine) : PSet X rSetO := by
  intro pins s σ H o i v ov iv u Q I ro ri rv h
  rcases h with h | h
  · exact set_list pins s σ H o i v ov iv u Q I ro ri rv h
  · exact set_dict hu pins s σ H o i v ov iv u Q I ro ri rv h
theorem sst_set (o : SOk gi G tabs N sc k X) {i : Nat} {kk e : E} {st : Stmt} (h : okS gi N sc (.set i kk e) st = true) : SS tabs X st (runS G (.set i kk e)) := fun B hB => by
  simp only [okS] at h
  cases e1 : asAsg st with
  | none => rw [e1] at h; cases h
  | some z =>
    obtain ⟨t, v, p⟩ := z
    rw [e1] at h
    cases asAsg_some e1
    cases e2 : asSub t with
    | none => simp only [e2] at h; cases h
    | some w =>
      obtain ⟨oo, ix⟩ := w
      simp only [e2, Bool.and_eq_true] at h
      obtain ⟨p2, rfl, hsl⟩ := asSub_some e2
      obtain ⟨⟨h1, h2⟩, h3⟩ := h
      have hs1 : swapsWithSole [.Subscript oo ix p2] v p.line X.env = pure false := by
        unfold swapsWithSole swapsWith
        cases v <;> rfl
      have hs2 : swappedStores [.Subscript oo ix p2] v X.env = pure none := by
        unfold swappedStores
        cases v <;> rfl
      have hpg : PG X (.Subscript oo ix p2) (gSub (tVar i) (tE X.K B (runE G kk)) rSetO) := pg_sub (o.x.var h1) ((allE kk).se o.x ix h2 B hB) (set_or (by have := o.x.hu; omega)) (fun v => by cases ix <;> first | rfl | (simp [isSlice] at hsl))
      refine (ps_asg ((allE e).se o.x v h3 B hB) hpg hs1 hs2 rfl).imp fun D σ H hq => ?_
      obtain ⟨ρ, tt, vs, fl, a1, a2, a3, a4⟩ := hq
      simp only [runS] at a3
      obtain ⟨⟨r, ρ1⟩, g1, a3⟩ := Res.bind_ok a3
      obtain ⟨c0, g0, a3⟩ := Res.bind_ok a3
      obtain ⟨⟨rk, ρ2⟩, g2, a3⟩ := Res.bind_ok a3
      refine ⟨ρ, tt, vs, r, ρ1, a1, a2, g1, fun x H1 R1 => ?_⟩
      have R1a : R X.K B (ρ1 ++ (tt ++ [r.sl])) (σ ++ (vs ++ [some x])) H1 := by simpa using R1
      have l1 : ρ1.length = σ.length := by have a := a1.len; have b := R1.len; simp at a b; omega
      obtain ⟨v0, hv0, _⟩ := R1a.read l1 (Res.of_ok g0)
      refine ⟨v0, hv0, ρ1, tt ++ [r.sl], vs ++ [some x], rk, ρ2, R1a, l1, g2, fun y H2 R2 => ?_⟩
      have R2' : R X.K B ((ρ2 ++ tt) ++ [r.sl] ++ [rk.sl]) ((σ ++ vs) ++ [some x] ++ [some y]) H2 := by simpa using R2
      obtain ⟨q0, q1, q2⟩ := R2'.take2
      have l2 : ρ2.length = σ.length := set_len a1 q0 a2
      have key : ∀ (s : Gw.D → Sl) (c c' : Gw.D), (s = Sl.own ∨ s = Sl.ref) → ρ2.at i = s c → dSet c rk.d r.d = some c' → fl = .nx (ρ2.set i (s c')) → rSetO v0 y x H2 fun H3 => D.nx σ H3 := fun s c c' hs hi hd hfl => by
        subst hfl
        have hne : s c ≠ .no := by rcases hs with rfl | rfl <;> (intro z; cases z)
        have gi1 := at_some hi hne
        have hilt := lt_of_get gi1
        obtain ⟨a, hva, hoa⟩ : ∃ a, (σ ++ vs)[i]? = some (some (.ref a)) ∧ OwnAt X.K (Mt B.Z (ρ2 ++ tt) (σ ++ vs)) H2 a c := by
          rcases hs with rfl | rfl
          · obtain ⟨a, k1, k2, _⟩ := q0.own i c (getL gi1); exact ⟨a, k1, k2⟩
          · obtain ⟨a, _, k1, k2⟩ := q0.ref i c (getL gi1); exact ⟨a, k1, k2⟩
        have ev : v0 = .ref a := by
          have hva' := hva
          rw [get_left (by omega), hv0] at hva'
          cases hva'; rfl
        subst ev
        have hso : (s c).isOwn := by rcases hs with rfl | rfl <;> exact trivial
        cases c with
        | lst ds =>
          cases ek : rk.d with
          | int n =>
            rw [ek] at hd q2
            simp only [dSet] at hd
            cases ej : ixN ds.length n with
            | none => rw [ej] at hd; cases hd
            | some j =>
              rw [ej] at hd
              cases hd
              obtain ⟨xs, k3, k4⟩ := hoa
              refine .inl ⟨a, xs, n, j, rfl, q2.intV, k3, by rw [k4.len, ixN_eq]; exact ej, ?_⟩
              have ma : Mt B.Z (ρ2 ++ tt) (σ ++ vs) a := .inr ⟨i, _, getL gi1, hso, hva⟩
              have stay : Stay (Mt B.Z (ρ2 ++ tt) (σ ++ vs)) H2 (upd H2 a (.lst (xs.set j x))) := fun b oo hb nn _ => by
                have ne : b ≠ a := fun e => nn (by rw [e]; exact ma)
                rw [upd_ne ne]; exact hb
              have q := q0.mutate (s := s (.lst ds)) (s' := s (.lst (ds.set j r.d))) (d := .lst ds) (d' := .lst (ds.set j r.d)) (o' := .lst (xs.set j x)) (getL gi1) (by rcases hs with rfl | rfl; exact .inl ⟨rfl, rfl⟩; exact .inr ⟨rfl, rfl⟩) hva
                ⟨xs.set j x, upd_same, (k4.mono stay fun a m => .inl m).set (q1.mono stay fun a m => .inl m) j⟩
              rw [set_left hilt] at q
              exact a4 σ _ (by simp [l2]) q
          | _ => rw [ek] at hd; cases hd
        | dct kvs =>
          have hd : (if lineOk (kvs.length + 1) then (kyOf rk.d).map fun y => Gw.D.dct (storeK kvs y r.d) else none) = some c' := by
            cases ek : rk.d <;> rw [ek] at hd <;> exact hd
          by_cases hz : lineOk (kvs.length + 1) = true
          · rw [if_pos hz] at hd
            cases ek : kyOf rk.d with
            | none => rw [ek] at hd; cases hd
            | some y0 =>
              rw [ek] at hd
              cases hd
              obtain ⟨xs, k3, k4⟩ := hoa
              obtain ⟨kk0, e1, e2⟩ := kyOf_kK ek
              have hy := e2 q2
              subst hy
              have hlt : xs.length < sizeLine := by have := lineOk_iff hz; rw [k4.len]; omega
              refine .inr ⟨a, _, rfl, DPut.k k3 hlt, ?_⟩
              have ma : Mt B.Z (ρ2 ++ tt) (σ ++ vs) a := .inr ⟨i, _, getL gi1, hso, hva⟩
              have stay : Stay (Mt B.Z (ρ2 ++ tt) (σ ++ vs)) H2 (upd H2 a (.dK (putK xs kk0 x))) := fun b oo hb nn _ => by
                have ne : b ≠ a := fun e => nn (by rw [e]; exact ma)
                rw [upd_ne ne]; exact hb
              have q := q0.mutate (s := s (.dct kvs)) (s' := s (.dct (storeK kvs y0 r.d))) (d := .dct kvs) (d' := .dct (storeK kvs y0 r.d)) (o' := .dK (putK xs kk0 x)) (getL gi1) (by rcases hs with rfl | rfl; exact .inl ⟨rfl, rfl⟩; exact .inr ⟨rfl, rfl⟩) hva
                ⟨putK xs kk0 x, upd_same, (k4.mono stay fun a m => .inl m).put e1 (q1.mono stay fun a m => .inl m)⟩
              rw [set_left hilt] at q
              exact a4 σ _ (by simp [l2]) q
          · rw [if_neg hz] at hd; cases hd
        | _ => cases hd
      simp only at a3
      split at a3
      · rename_i c ec
        obtain ⟨c', g3, a3⟩ := Res.bind_ok a3
        cases a3
        exact key Sl.own c c' (.inl rfl) ec (Res.of_ok g3) rfl
      · rename_i c ec
        obtain ⟨c', g3, a3⟩ := Res.bind_ok a3
        cases a3
        exact key Sl.ref c c' (.inr rfl) ec (Res.of_ok g3) rfl
      · cases a3
theorem sst_app (o : SOk gi G tabs N sc k X) {i : Nat} {e : E} {st : Stmt} (h : okS gi N sc (.app i e) st = true) : SS tabs X st (runS G (.app i e)) := fun B hB => by
  simp only [okS] at h
  cases e1 : asExp st with
  | none => rw [e1] at h; cases h
  | some x =>
    rw [e1] at h
    obtain ⟨p, rfl⟩ := asExp_some e1
    simp only at h
    split at h
    · rename_i oo m y e2
      simp only [Bool.and_eq_true, decide_eq_true_eq, Bool.not_eq_true'] at h
      obtain ⟨apos, pos, rfl, hl1, hl2⟩ := asMeth_some e2
      obtain ⟨⟨⟨rfl, h1⟩, hs⟩, h2⟩ := h
      have hbase : attributeBase oo ("append" : Str) X.env (eval oo X.env) = eval oo X.env := by
        cases oo <;> first | rfl | (simp [isCallE] at hl2)
      have hst : starEach [y] X.env = [(false, eval y X.env)] := star_of hs
      refine (ps_expr (pe_bm PySem.F.plainAttrs_list PySem.F.slot_list_append PySem.F.type_list_append mt_append (o.x.var h1) (pa_cons ((allE e).se o.x y h2 B hB) pa_nil (star_of hs)) hbase (by rw [hst]; rfl) hl1 (star_of hs) rfl) rfl).imp fun D σ H hq => ?_
      obtain ⟨ρ, tt, vs, fl, a1, a2, a3, a4⟩ := hq
      simp only [runS] at a3
      split at a3
      · rename_i l0 e0
        obtain ⟨⟨r, ρ1⟩, g1, a3⟩ := Res.bind_ok a3
        obtain ⟨v0, hv0, hra⟩ := a1.read a2 e0
        obtain ⟨a, xs0, rfl, k1, _, _⟩ := hra.lstV
        refine ⟨_, hv0, .inl ⟨rfl, _, .inl (.inl k1)⟩, ρ, tt, vs, r, ρ1, a1, a2, g1, fun x H1 R1 => ?_⟩
        obtain ⟨q0, q1⟩ := R1.take1
        have l1 : ρ1.length = σ.length := set_len a1 q0 a2
        have key : ∀ (s : Gw.D → Sl) (ds : List Gw.D), (s = Sl.own ∨ s = Sl.ref) → ρ1.at i = s (.lst ds) → lineOk (ds.length + 1) = true → fl = .nx (ρ1.set i (s (.lst (ds ++ [r.d])))) → rAppend (.ref a) [x] H1 fun _ H1 => D.nx σ H1 := fun s ds hs hi hz hfl => by
          subst hfl
          have hne : s (.lst ds) ≠ .no := by rcases hs with rfl | rfl <;> (intro z; cases z)
          have gi1 := at_some hi hne
          have hilt := lt_of_get gi1
          obtain ⟨a', hva, hoa⟩ : ∃ a, (σ ++ vs)[i]? = some (some (.ref a)) ∧ OwnAt X.K (Mt B.Z (ρ1 ++ tt) (σ ++ vs)) H1 a (.lst ds) := by
            rcases hs with rfl | rfl
            · obtain ⟨a, k1, k2, _⟩ := q0.own i _ (getL gi1); exact ⟨a, k1, k2⟩
            · obtain ⟨a, _, k1, k2⟩ := q0.ref i _ (getL gi1); exact ⟨a, k1, k2⟩
          have ev : a' = a := by
            have hva' := hva
            rw [get_left (by omega), hv0] at hva'
            cases hva'; rfl
          subst ev
          have hso : (s (.lst ds)).isOwn := by rcases hs with rfl | rfl <;> exact trivial
          obtain ⟨xs, k3, k4⟩ := hoa
          refine ⟨_, xs, x, rfl, rfl, k3, ?_, ?_⟩
          · have := lineOk_iff hz
            rw [k4.len]; omega
          · have ma : Mt B.Z (ρ1 ++ tt) (σ ++ vs) a' := .inr ⟨i, _, getL gi1, hso, hva⟩
            have stay : Stay (Mt B.Z (ρ1 ++ tt) (σ ++ vs)) H1 (upd H1 a' (.lst (xs ++ [x]))) := fun b oo hb nn _ => by
              have ne : b ≠ a' := fun e => nn (by rw [e]; exact ma)
              rw [upd_ne ne]; exact hb
            have q := q0.mutate (s := s (.lst ds)) (s' := s (.lst (ds ++ [r.d]))) (d := .lst ds) (d' := .lst (ds ++ [r.d])) (o' := .lst (xs ++ [x])) (getL gi1) (by rcases hs with rfl | rfl; exact .inl ⟨rfl, rfl⟩; exact .inr ⟨rfl, rfl⟩) hva
              ⟨xs ++ [x], upd_same, (k4.mono stay fun a m => .inl m).append (.cons (q1.mono stay fun a m => .inl m) .nil)⟩
            rw [set_left hilt] at q
            exact a4 σ _ (by simp [l1]) q
        simp only at a3
        split at a3
        · rename_i ds ed
          by_cases hz : lineOk (ds.length + 1) = true
          · rw [if_pos hz] at a3
            cases a3
            exact key Sl.own ds (.inl rfl) ed hz rfl
          · rw [if_neg hz] at a3; cases a3
        · rename_i ds ed
          by_cases hz : lineOk (ds.length + 1) = true
          · rw [if_pos hz] at a3
            cases a3
            exact key Sl.ref ds (.inr rfl) ed hz rfl
          · rw [if_neg hz] at a3; cases a3
        · cases a3
      · cases a3
    · cases h
theorem sst_ext (o : SOk gi G tabs N sc k X) {i : Nat} {e : E} {st : Stmt} (h : okS gi N sc (.ext i e) st = true) : SS tabs X st (runS G (.ext i e)) := fun B hB => by
  simp only [okS] at h
  cases e1 : asExp st with
  | none => rw [e1] at h; cases h
  | some x =>
    rw [e1] at h
    obtain ⟨p, rfl⟩ := asExp_some e1
    simp only at h
    split at h
    · rename_i oo m y e2
      simp only [Bool.and_eq_true, decide_eq_true_eq, Bool.not_eq_true'] at h
      obtain ⟨apos, pos, rfl, hl1, hl2⟩ := asMeth_some e2
      obtain ⟨⟨⟨rfl, h1⟩, hs⟩, h2⟩ := h
      have hbase : attributeBase oo ("extend" : Str) X.env (eval oo X.env) = eval oo X.env := by
        cases oo <;> first | rfl | (simp [isCallE] at hl2)
      have hst : starEach [y] X.env = [(false, eval y X.env)] := star_of hs
      refine (ps_expr (pe_bm PySem.F.plainAttrs_list PySem.F.slot_list_extend PySem.F.type_list_extend mt_extend (o.x.var h1) (pa_cons ((allE e).se o.x y h2 B hB) pa_nil (star_of hs)) hbase (by rw [hst]; rfl) hl1 (star_of hs) rfl) rfl).imp fun D σ H hq => ?_
      obtain ⟨ρ, tt, vs, fl, a1, a2, a3, a4⟩ := hq
      simp only [runS] at a3
      split at a3
      · rename_i l0 e0
        obtain ⟨⟨r, ρ1⟩, g1, a3⟩ := Res.bind_ok a3
        obtain ⟨v0, hv0, hra⟩ := a1.read a2 e0
        obtain ⟨a, xs0, rfl, k1, _, _⟩ := hra.lstV
        refine ⟨_, hv0, .inl ⟨rfl, _, .inl (.inl k1)⟩, ρ, tt, vs, r, ρ1, a1, a2, g1, fun x H1 R1 => ?_⟩
        obtain ⟨q0, q1⟩ := R1.take1
        have l1 : ρ1.length = σ.length := set_len a1 q0 a2
        have key : ∀ (s : Gw.D → Sl) (ds es : List Gw.D), (s = Sl.own ∨ s = Sl.ref) → r.d = .lst es → ρ1.at i = s (.lst ds) → lineOk (ds.length + es.length) = true → fl = .nx (ρ1.set i (s (.lst (ds ++ es)))) → rExtend (.ref a) [x] H1 fun _ H1 => D.nx σ H1 := fun s ds es hs he hi hz hfl => by
          subst hfl
          have hne : s (.lst ds) ≠ .no := by rcases hs with rfl | rfl <;> (intro z; cases z)
          have gi1 := at_some hi hne
          have hilt := lt_of_get gi1
          obtain ⟨a', hva, hoa⟩ : ∃ a, (σ ++ vs)[i]? = some (some (.ref a)) ∧ OwnAt X.K (Mt B.Z (ρ1 ++ tt) (σ ++ vs)) H1 a (.lst ds) := by
            rcases hs with rfl | rfl
            · obtain ⟨a, k1, k2, _⟩ := q0.own i _ (getL gi1); exact ⟨a, k1, k2⟩
            · obtain ⟨a, _, k1, k2⟩ := q0.ref i _ (getL gi1); exact ⟨a, k1, k2⟩
          have ev : a' = a := by
            have hva' := hva
            rw [get_left (by omega), hv0] at hva'
            cases hva'; rfl
          subst ev
          have hso : (s (.lst ds)).isOwn := by rcases hs with rfl | rfl <;> exact trivial
          obtain ⟨xs, k3, k4⟩ := hoa
          rw [he] at q1
          obtain ⟨b, zs, rfl, z1, z2, z3⟩ := q1.lstV
          refine ⟨_, b, xs, zs, rfl, rfl, k3, z1, ?_, ?_⟩
          · have := lineOk_iff hz
            rw [k4.len, z3.len]; exact this
          · have ma : Mt B.Z (ρ1 ++ tt) (σ ++ vs) a' := .inr ⟨i, _, getL gi1, hso, hva⟩
            have stay : Stay (Mt B.Z (ρ1 ++ tt) (σ ++ vs)) H1 (upd H1 a' (.lst (xs ++ zs))) := fun b oo hb nn _ => by
              have ne : b ≠ a' := fun e => nn (by rw [e]; exact ma)
              rw [upd_ne ne]; exact hb
            have q := q0.mutate (s := s (.lst ds)) (s' := s (.lst (ds ++ es))) (d := .lst ds) (d' := .lst (ds ++ es)) (o' := .lst (xs ++ zs)) (getL gi1) (by rcases hs with rfl | rfl; exact .inl ⟨rfl, rfl⟩; exact .inr ⟨rfl, rfl⟩) hva
              ⟨xs ++ zs, upd_same, (k4.mono stay fun a m => .inl m).append (z3.mono stay fun a m => .inl m)⟩
            rw [set_left hilt] at q
            exact a4 σ _ (by simp [l1]) q
        simp only at a3
        split at a3
        · rename_i es ee
          split at a3
          · rename_i ds ed
            by_cases hz : lineOk (ds.length + es.length) = true
            · rw [if_pos hz] at a3
              cases a3
              exact key Sl.own ds es (.inl rfl) ee ed hz rfl
            · rw [if_neg hz] at a3; cases a3
          · rename_i ds ed
            by_cases hz : lineOk (ds.length + es.length) = true
            · rw [if_pos hz] at a3
              cases a3
              exact key Sl.ref ds es (.inr rfl) ee ed hz rfl
            · rw [if_neg hz] at a3; cases a3
          · cases a3
        · cases a3
      · cases a3
    · cases h
theorem sst_exp (o : SOk gi G tabs N sc k X) {e : E} {st : Stmt} (h : okS gi N sc (.exp e) st = true) : SS tabs X st (runS G (.exp e)) := fun B hB => by
  simp only [okS] at h
  cases e1 : asExp st with
  | none => rw [e1] at h; cases h
  | some x =>
    rw [e1] at h
    obtain ⟨p, rfl⟩ := asExp_some e1
    simp only [Bool.and_eq_true] at h
    have hsw : swapsWith x none p.line X.env = pure false := by
      obtain ⟨h1, _⟩ := h
      cases x <;> first | (simp [isCallE] at h1; done) | rfl
    refine (ps_expr ((allE e).se o.x x h.2 B hB) hsw).imp fun D σ H hq => ?_
    obtain ⟨ρ, tt, vs, fl, a1, a2, a3, a4⟩ := hq
    simp only [runS] at a3
    obtain ⟨⟨r, ρ1⟩, g1, a3⟩ := Res.bind_ok a3
    cases a3
    refine ⟨ρ, tt, vs, r, ρ1, a1, a2, g1, fun x H1 R1 => ?_⟩
    obtain ⟨q0, _⟩ := R1.take1
    exact a4 σ H1 (set_len a1 q0 a2) q0
theorem sst_ret (o : SOk gi G tabs N sc k X) {e : E} {st : Stmt} (h : okS gi N sc (.ret e) st = true) : SS tabs X st (runS G (.ret e)) := fun B hB => by
  simp only [okS] at h
  cases e1 : asRet st with
  | none => rw [e1] at h; cases h
  | some x =>
    rw [e1] at h
    obtain ⟨p, rfl⟩ := asRet_some e1
    refine (ps_ret ((allE e).se o.x x h B hB)).imp fun D σ H hq => ?_
    obtain ⟨ρ, tt, vs, fl, a1, a2, a3, a4⟩ := hq
    simp only [runS] at a3
    obtain ⟨⟨r, ρ1⟩, g1, a3⟩ := Res.bind_ok a3
    cases a3
    refine ⟨ρ, tt, vs, r, ρ1, a1, a2, g1, fun x H1 R1 => ?_⟩
    have l1 : ρ1.length = σ.length := by have a := a1.len; have b := R1.len; simp at a b; omega
    exact a4 σ x H1 l1 R1
theorem sst_ife (o : SOk gi G tabs N sc k X) {c : E} {a b : Ss} {st : Stmt} (h : okS gi N sc (.ife c a b) st = true) (iha : ∀ l, okSs gi N sc a l = true → SSs tabs X l (runSs G a)) (ihb : ∀ l, okSs gi N sc b l = true → SSs tabs X l (runSs G b)) : SS tabs X st (runS G (.ife c a b)) := fun B hB => by
  simp only [okS] at h
  cases e1 : asIfS st with
  | none => rw [e1] at h; cases h
  | some z =>
    obtain ⟨x, l, r⟩ := z
    rw [e1] at h
    obtain ⟨p, rfl⟩ := asIfS_some e1
    simp only [Bool.and_eq_true] at h
    obtain ⟨⟨h1, h2⟩, h3⟩ := h
    refine (ps_if ((allE c).st o.x x h1 B hB) (iha l h2 B hB) (ihb r h3 B hB)).imp fun D σ H hq => ?_
    obtain ⟨ρ, tt, vs, fl, a1, a2, a3, a4⟩ := hq
    simp only [runS] at a3
    obtain ⟨⟨rc, ρ1⟩, g1, a3⟩ := Res.bind_ok a3
    obtain ⟨t, g2, a3⟩ := Res.bind_ok a3
    refine ⟨ρ, tt, vs, rc, ρ1, t, a1, a2, g1, Res.of_ok g2, fun H1 R1 => ?_⟩
    have l1 := set_len a1 R1 a2
    cases t with
    | true =>
      simp only [if_true] at a3 ⊢
      exact ⟨ρ1, tt, vs, fl, R1, l1, a3, a4⟩
    | false =>
      simp only [Bool.false_eq_true, if_false] at a3 ⊢
      exact ⟨ρ1, tt, vs, fl, R1, l1, a3, a4⟩
theorem sst_for (o : SOk gi G tabs N sc k X) {t : T} {it : I} {b : Ss} {st : Stmt} (h : okS gi N sc (.fors t it b) st = true) (ihb : ∀ l, okSs gi N sc b l = true → SSs tabs X l (runSs G b)) : SS tabs X st (runS G (.fors t it b)) := fun B hB => by
  simp only [okS] at h
  cases e1 : asFor st with
  | none => rw [e1] at h; cases h
  | some z =>
    obtain ⟨tg, x, l⟩ := z
    rw [e1] at h
    obtain ⟨p, rfl⟩ := asFor_some e1
    simp only [Bool.and_eq_true] at h
    obtain ⟨⟨h1, h2⟩, h3⟩ := h
    refine (ps_for o.hp o.x.calm (allI it o.x tg x h1 B hB) (pg_ok o.x B t tg h2) (ihb l h3 B hB) (notsetI (okI_set h1) _)).imp fun D σ H hq => ?_
    obtain ⟨ρ, tt, vs, fl, a1, a2, a3, a4⟩ := hq
    simp only [runS] at a3
    obtain ⟨⟨ds, ρ1, mv⟩, g1, a3⟩ := Res.bind_ok a3
    cases mv with
    | some _ => cases a3
    | none =>
      simp only at a3
      refine ⟨ρ, tt, vs, ds, ρ1, none, a1, a2, g1, fun J H1 s v hH R1 wk => ?_⟩
      have hH : ∀ d, s ≠ .ref d := hH
      have lt : tt.length = vs.length := by have a := a1.len; simp at a; omega
      have l1 : ρ1.length = σ.length := by have a := R1.len; simp at a; omega
      refine ⟨fun i m σi H => m = ds.length - i ∧ i ≤ ds.length ∧ ∃ ρi : Env, ρi.length = σi.length ∧ R X.K B (ρi ++ tt ++ [s]) (σi ++ vs ++ [v]) H ∧ loopF (fun x ρ => (Res.of (setT t x ρ)).bind fun ρ1 => runSs G b ρ1) (ds.drop i) ρi = .ok fl, ⟨ds.length, rfl, Nat.zero_le _, ρ1, l1, R1, by simpa using a3⟩, ?_⟩
      rintro i m σ5 H5 ⟨rfl, hi, ρi, li, R5, gl⟩
      have l5 : (ρi ++ tt).length = (σ5 ++ vs).length := by simp [li, lt]
      by_cases hlt : i < ds.length
      · right
        obtain ⟨d, hd⟩ : ∃ d, ds[i]? = some d := ⟨ds[i], List.getElem?_eq_getElem hlt⟩
        have hdr : ds.drop i = d :: ds.drop (i + 1) := by
          rw [List.drop_eq_getElem_cons hlt]
          rw [List.getElem?_eq_getElem hlt] at hd
          cases hd; rfl
        rw [hdr] at gl
        simp only [loopF] at gl
        obtain ⟨f, g4, gl⟩ := Res.bind_ok gl
        obtain ⟨ρ2, g5, g4⟩ := Res.bind_ok g4
        have g5 := Res.of_ok g5
        refine ⟨(wk B).go i _ _ H5 hlt l5 R5, fun σ' H' => ∃ ρi : Env, ρi.length = σ'.length ∧ R X.K B (ρi ++ tt ++ [s]) (σ' ++ vs ++ [v]) H' ∧ loopF (fun x ρ => (Res.of (setT t x ρ)).bind fun ρ1 => runSs G b ρ1) (ds.drop (i + 1)) ρi = .ok fl, fun σ' H' ⟨ρi', q1, q2, q3⟩ => ⟨ds.length - (i + 1), by omega, rfl, hlt, ρi', q1, q2, q3⟩, fun x H' y => ?_⟩
        have R6 := (wk B).yld i _ _ H5 x H' d hd l5 R5 y
        refine ⟨ρi, tt ++ [s], vs ++ [v], d, ρ2, by simpa using R6, li, g5, fun σ2 H2 s1 _ R7 => ?_⟩
        have l7 : ρ2.length = σ2.length := by have a := R7.len; simp at a; omega
        refine ⟨ρ2, tt ++ [s], vs ++ [v], f, R7, l7, g4, ?_⟩
        cases f with
        | nx ρ' =>
          exact fun σ' H' hl' R' => ⟨ρ', hl', by simpa using R', gl⟩
        | ct ρ' =>
          exact fun σ' H' hl' R' => ⟨ρ', hl', by simpa using R', gl⟩
        | bk ρ' =>
          intro σ' H' hl' R'
          cases gl
          have R'' : R X.K B (ρ' ++ tt ++ [s]) (σ' ++ vs ++ [v]) H' := by simpa using R'
          exact a4 σ' H' hl' (R''.pop hH)
        | rt r ρ' =>
          intro σ' w H' hl' R'
          cases gl
          have R'' : R X.K B ((ρ' ++ tt) ++ [s] ++ [r.sl]) ((σ' ++ vs) ++ [v] ++ [some w]) H' := by simpa using R'
          exact a4 σ' w H' hl' (R''.drop_mid (by simp [hl', lt]) hH fun t ht d => by
            have := List.mem_singleton.mp ht
            rw [this]; exact r.noref d)
      · left
        have e : i = ds.length := by omega
        subst e
        rw [List.drop_length] at gl
        simp only [loopF] at gl
        cases gl
        exact ⟨(wk B).stop _ _ H5 l5 R5, a4 σ5 H5 li (R5.pop hH)⟩
theorem sst_whl (o : SOk gi G tabs N sc k X) {n : Nat} {c : E} {b : Ss} {st : Stmt} (h : okS gi N sc (.whl n c b) st = true) (ihb : ∀ l, okSs gi N sc b l = true → SSs tabs X l (runSs G b)) : SS tabs X st (runS G (.whl n c b)) := fun B hB => by
  simp only [okS] at h
  cases e1 : asWhl st with
  | none => rw [e1] at h; cases h
  | some z =>
    obtain ⟨x, l⟩ := z
    rw [e1] at h
    obtain ⟨p, rfl⟩ := asWhl_some e1
    simp only [Bool.and_eq_true] at h
    refine (ps_while o.hp ((allE c).st o.x x h.1 B hB) (ihb l h.2 B hB)).imp fun D σ H hq => ?_
    obtain ⟨ρ, tt, vs, fl, a1, a2, a3, a4⟩ := hq
    simp only [runS] at a3
    refine ⟨fun m σi H => ∃ ρi : Env, ρi.length = σi.length ∧ R X.K B (ρi ++ tt) (σi ++ vs) H ∧ loopW (fun ρ => (runE G c ρ).bind fun p => truR p.1 p.2) (fun ρ => runSs G b ρ) m ρi = .ok fl, ⟨n, ρ, a2, a1, a3⟩, ?_⟩
    rintro m σ5 H5 ⟨ρi, li, R5, gl⟩
    cases m with
    | zero => cases gl
    | succ m =>
      simp only [loopW] at gl
      obtain ⟨⟨b', ρ'⟩, g1, gl⟩ := Res.bind_ok gl
      obtain ⟨⟨rc, ρ1⟩, g2, g1⟩ := Res.bind_ok g1
      unfold truR at g1
      obtain ⟨bb, g3, g1⟩ := Res.bind_ok g1
      cases g1
      refine ⟨ρi, tt, vs, rc, ρ1, b', R5, li, g2, Res.of_ok g3, fun H1 R1 => ?_⟩
      have l1 := set_len R5 R1 li
      cases b' with
      | false =>
        simp only [Bool.false_eq_true, if_false] at gl ⊢
        cases gl
        exact a4 σ5 H1 l1 R1
      | true =>
        simp only [if_true] at gl ⊢
        obtain ⟨f, g4, gl⟩ := Res.bind_ok gl
        refine ⟨fun σ' H' => ∃ ρi : Env, ρi.length = σ'.length ∧ R X.K B (ρi ++ tt) (σ' ++ vs) H' ∧ loopW (fun ρ => (runE G c ρ).bind fun p => truR p.1 p.2) (fun ρ => runSs G b ρ) m ρi = .ok fl, fun σ' H' q => ⟨m, Nat.lt_succ_self m, q⟩, ρ1, tt, vs, f, R1, l1, g4, ?_⟩
        cases f with
        | nx ρ' => exact fun σ' H' hl' R' => ⟨ρ', hl', R', gl⟩
        | ct ρ' => exact fun σ' H' hl' R' => ⟨ρ', hl', R', gl⟩
        | bk ρ' =>
          intro σ' H' hl' R'
          cases gl
          exact a4 σ' H' hl' R'
        | rt r ρ' =>
          intro σ' w H' hl' R'
          cases gl
          exact a4 σ' w H' hl' R'
mutual
theorem allS (o : SOk gi G tabs N sc k X) : ∀ (s : S) (st : Stmt), okS gi N sc s st = true → SS tabs X st (runS G s)
  | .asg i e, st, h => sst_asg o h
  | .par is es, st, h => sst_par o h
  | .unp t e, st, h => sst_unp o h
  | .aug i op e, st, h => sst_aug o h
  | .set i kk e, st, h => sst_set o h
  | .exp e, st, h => sst_exp o h
  | .app i e, st, h => sst_app o h
  | .ext i e, st, h => sst_ext o h
  | .ret e, st, h => sst_ret o h
  | .ife c a b, st, h => sst_ife o h (allSs o a) (allSs o b)
  | .fors t it b, st, h => sst_for o h (allSs o b)
  | .whl n c b, st, h => sst_whl o h (allSs o b)
  | .brk, st, h => fun B hB => by
    cases st <;> simp [okS, isBrk] at h
    refine ps_break.imp fun D σ H hq => ?_
    obtain ⟨ρ, tt, vs, fl, a1, a2, a3, a4⟩ := hq
    simp only [runS] at a3
    cases a3
    exact a4 σ H a2 a1
  | .cont, st, h => fun B hB => by
    cases st <;> simp [okS, isCnt] at h
    refine ps_continue.imp fun D σ H hq => ?_
    obtain ⟨ρ, tt, vs, fl, a1, a2, a3, a4⟩ := hq
    simp only [runS] at a3
    cases a3
    exact a4 σ H a2 a1
  | .pass, st, h => fun B hB => by
    cases st <;> simp [okS, isPas] at h
    refine ps_pass.imp fun D σ H hq => ?_
    obtain ⟨ρ, tt, vs, fl, a1, a2, a3, a4⟩ := hq
    simp only [runS] at a3
    cases a3
    exact a4 σ H a2 a1
  | .bad, st, h => fun B hB => ⟨fun pins s σ H D I ⟨ρ, tt, vs, fl, _, _, hF, _⟩ => by simp only [runS] at hF; cases hF⟩
theorem allSs (o : SOk gi G tabs N sc k X) : ∀ (ss : Ss) (l : List Stmt), okSs gi N sc ss l = true → SSs tabs X l (runSs G ss)
  | .nil, l, h => fun B hB => by
    have : l = [] := by simpa [okSs] using h
    subst this
    refine pss_nil.imp fun D σ H hq => ?_
    obtain ⟨ρ, tt, vs, fl, a1, a2, a3, a4⟩ := hq
    simp only [runSs] at a3
    cases a3
    exact a4 σ H a2 a1
  | .cons s ss, [], h => by simp [okSs] at h
  | .cons s ss, st :: l, h => fun B hB => by
    simp only [okSs, Bool.and_eq_true] at h
    refine (pss_cons (allS o s st h.1 B hB) (allSs o ss l h.2 B hB)).imp fun D σ H hq => ?_
    obtain ⟨ρ, tt, vs, fl, a1, a2, a3, a4⟩ := hq
    simp only [runSs] at a3
    obtain ⟨f, g1, a3⟩ := Res.bind_ok a3
    refine ⟨ρ, tt, vs, f, a1, a2, g1, ?_⟩
    cases f with
    | nx ρ' => exact fun σ' H' hl' R' => ⟨ρ', tt, vs, fl, R', hl', a3, a4⟩
    | ct ρ' => cases a3; exact a4
    | bk ρ' => cases a3; exact a4
    | rt r ρ' => cases a3; exact a4
end
end
end Gw

set_option Elab.async false
set_option linter.all false
set_option maxRecDepth 100000
set_option maxHeartbeats 4000000
/-! The value layer, part 18: defs. -/
namespace Gw
open PySem L2
section
variable {P : Program} {w : World} {K : PySem.W.Frag} {mg : Str → Option Value} {base : Heap} {gi : GI} {tabs : List Addr}
/-- a def of the text, its small syntax, its place -/
structure DfOk (K : PySem.W.Frag) (mg : Str → Option Value) (base : Heap) (tabs : List Addr) (gi : GI) (d : Df) (st : Stmt) (a : Addr) (fd : FuncData) : Prop where
  fn : ∃ qual, Fun K d.nm qual st a fd
  at' : mg d.nm = some (.ref a)
  bind : Binds K fd (d.N.take d.np) []
  sc : FnScope d.N (d.N.take d.np) (defScope st)
  np : d.np ≤ d.N.length
  dbg : ∀ x ∈ d.N, (x == ("__debug__" : Str)) = false ∧ (x == ("__classdict__" : Str)) = false
  nmd : (d.nm == ("__debug__" : Str)) = false
  ok : okSs (gi.on d.g) d.N (defScope st) d.body (defBody st) = true
  tab : d.g = true → ∃ c P : Addr, fd.code = .ref c ∧ GxR.TabB base mg c P ∧ P ∈ tabs
/-- a def by its body, its code known -/
theorem okFn {x qual : Str} {st : Stmt} {f : Addr} {fd : FuncData} {N ps : List Str} {k : Nat} {sp : Sp} (F : Fun K x qual st f fd) (S : FnScope N ps (defScope st)) (len : ∀ vs H Q E, sp vs H Q E → vs.length = ps.length)
    (hbody : ∀ (A : Around) (outer : List PySem.Env) (s : Shared) (H : Hp) (vs : List V) (Q : VK) (E : XK), Room k (A.deeper (PyProof.Rows.envOfC qual (defScope st) s.heap.objs.size f fd.code)) → sp vs H Q E →
      ∃ t, PSs (cxOf CX0 P w K mg base N qual (defScope st) f fd.code A outer s H E).nox (defBody st) t ∧ t { nx := fun _ H' => Q .non H', rt := Q } (L2.start N vs) H) : FnOk P w K mg base CX0 (k + 1) f fd ps sp := by
  obtain ⟨oc, od, kV, doc, pm, an, cdv, ct, osl, rfl, lk, hcd⟩ := F.ex
  refine fn_of lk hcd S len fun A outer s H vs Q E hr hsp => ?_
  obtain ⟨t, h, q⟩ := hbody A outer s H vs Q E hr hsp
  exact ⟨t, h.nox, q⟩
/-- the module's constants -/
def CstOk (K : PySem.W.Frag) (mg : Str → Option Value) (gi : GI) (cst : Nat → Option D) : Prop := ∀ (g : Nat) (nm : Str) (d : D), gi.cs[g]? = some nm → cst g = some d → (nm == ("__debug__" : Str)) = false ∧ ∃ (u : Value) (v : V), mg nm = some u ∧ RelV v u ∧ ∀ M H, Rp K M H v d
theorem R.pushNos {B : Bs} {ss : List Sl} {vs : List (Option V)} {H : Hp} (r : R K B ss vs H) : ∀ n : Nat, R K B (ss ++ List.replicate n .no) (vs ++ List.replicate n none) H
  | 0 => by simpa using r
  | n + 1 => by
    have q := (R.pushNos r n).push_no none
    rw [List.replicate_succ', List.replicate_succ', ← List.append_assoc, ← List.append_assoc]
    exact q
/-- back to what a caller sees -/
theorem R.leave {B : Bs} {ps : List Sl} {vs : List V} {H H' : Hp} (r0 : R K B ps (vs.map some) H) (h0 : ∀ s ∈ ps, ∀ d, s ≠ .own d) {ρ : Env} {σ : List (Option V)} {r : Rv} {v : V} (hl : ρ.length = σ.length) (hn : ps.length ≤ ρ.length)
    (R1 : R K B (ρ ++ [r.sl]) (σ ++ [some v]) H') : R K B ((ρ.take ps.length).map onlyRef ++ [r.sl]) (vs.map some ++ [some v]) H' := by
  have lv : ps.length = vs.length := by have := r0.len; simpa using this
  have lt : ((ρ.take ps.length).map onlyRef).length = vs.length := by simp; omega
  have refj : ∀ {j : Nat} {d : D}, ρ[j]? = some (.ref d) → ∃ e, ps[j]? = some (.ref e) ∧ (vs.map some)[j]? = σ[j]? := fun {j d} h => by
    obtain ⟨a, k1, k2, _⟩ := R1.ref j d (getL h)
    obtain ⟨e, k3⟩ := r0.pin j a k1
    obtain ⟨a', k4, k5, _⟩ := r0.ref j e k3
    rw [k1] at k4; cases k4
    rw [get_left (by have := lt_of_get h; omega)] at k2
    exact ⟨e, k3, k5.trans k2.symm⟩
  refine R1.sel (fun j => if j = vs.length then ρ.length else j) (by simp; omega) (fun j s h => ?_) (fun i j s t h1 h2 o1 o2 e => ?_) (fun j d h => ?_) fun j d h => ?_
  · rcases get1 h with ⟨hj, h1⟩ | ⟨hj, rfl⟩
    · rw [lt] at hj
      obtain ⟨s', h2, rfl⟩ := get_map h1
      rw [List.getElem?_take] at h2
      split at h2
      · cases s' with
        | ref d =>
          right
          rw [if_neg (by omega)]
          obtain ⟨e, _, k⟩ := refj h2
          refine ⟨getL h2, ?_⟩
          rw [List.getElem?_append_left (by simp; omega), get_left (by have := lt_of_get h2; omega)]
          exact k
        | _ => left; rfl
      · cases h2
    · right
      rw [lt] at hj
      rw [if_pos hj]
      refine ⟨getEnd _ _, ?_⟩
      rw [hj, show vs.length = (vs.map some).length by simp, getEnd, hl, getEnd]
  · have hi : i ≤ vs.length := by have := lt_of_get h1; simp at this; omega
    have hj : j ≤ vs.length := by have := lt_of_get h2; simp at this; omega
    by_cases a1 : i = vs.length <;> by_cases a2 : j = vs.length <;> simp only [a1, a2, if_true, if_false] at e ⊢
    · omega
    · omega
    · exact e
  · rcases get1 h with ⟨hj, h1⟩ | ⟨hj, e⟩
    · rw [lt] at hj
      rw [if_neg (by omega)]
    · exact (r.noref d e.symm).elim
  · rcases get1 h with ⟨hj, h1⟩ | ⟨hj, e⟩
    · obtain ⟨e, k1, _⟩ := refj h1
      refine getL ?_
      rw [List.getElem?_map, List.getElem?_take, if_pos (lt_of_get k1), h1]
      rfl
    · exact (r.noref d e.symm).elim
theorem spF_len {F : Fn} {n : Nat} (hF : ∀ ps r ps', F ps = .ok (r, ps') → ps.length = n) : ∀ vs H Q E, spF K tabs F vs H Q E → vs.length = n := fun vs H Q E ⟨B, ps, r, ps', _, _, hR, _, h, _⟩ => by
  have := hR.len
  have := hF ps r ps' h
  simp at *; omega
/-- every def, with n levels of calls -/
theorem all_defs {ds : List Df} {cst : Nat → Option D} {stOf : Nat → Stmt} {aOf : Nat → Addr} {fdOf : Nat → FuncData} (hfs : gi.fs = ds.map (·.nm)) (hd : ∀ (f : Nat) (d : Df), ds[f]? = some d → DfOk K mg base tabs gi d (stOf f) (aOf f) (fdOf f)) (hc : CstOk K mg gi cst) (hb : ∀ x ∈ bltNames, mg x = none) :
    ∀ (n : Nat) (f : Nat) (d : Df), ds[f]? = some d → FnOk P w K mg base CX0 (2 * n) (aOf f) (fdOf f) (d.N.take d.np) (spF K tabs (Phi ds cst n f))
  | 0, f, d, hf => by
    refine ⟨fun vs H Q E h => ?_, fun A outer s H args us vs Q E _ _ _ _ h => ?_⟩
    · obtain ⟨B, ps, r, ps', _, _, _, _, h, _⟩ := h
      cases h
    · obtain ⟨B, ps, r, ps', _, _, _, _, h, _⟩ := h
      cases h
  | n + 1, f, d, hf => by
    have o := hd f d hf
    obtain ⟨qual, F⟩ := o.fn
    have hPhi : Phi ds cst (n + 1) f = runF ⟨Phi ds cst n, cst⟩ d.N.length d.np d.body := by
      show (match ds[f]? with | none => _ | some d => _) = _
      rw [hf]
    rw [hPhi]
    refine okFn (k := 2 * n + 1) F o.sc (fun vs H Q E h => ?_) fun A outer s H vs Q E hr h => ?_
    · rw [spF_len (n := d.np) (fun ps r ps' h => ?_) vs H Q E h]
      · rw [List.length_take]; have := o.np; omega
      · unfold runF at h
        split at h
        · assumption
        · cases h
    · obtain ⟨B, ps, r, ps', hB0, hBt, hR, hno, hF, hQ⟩ := h
      have xo : XOk (gi.on d.g) ⟨Phi ds cst n, cst⟩ tabs d.N (defScope (stOf f)) (defScope (stOf f)) (2 * n) (cxOf CX0 P w K mg base d.N qual (defScope (stOf f)) (aOf f) (fdOf f).code A outer s H E).nox := {
        hN := rfl
        sc := rfl
        calm := rfl
        nd := o.sc.nd
        dbg := o.dbg
        room := hr.mono (by omega)
        roomG := fun _ => hr
        code := fun h => o.tab h
        blt := hb
        fn := fun g nm hg => by
          have hg : gi.fs[g]? = some nm := hg
          rw [hfs, List.getElem?_map] at hg
          cases e : ds[g]? with
          | none => rw [e] at hg; cases hg
          | some d' =>
            rw [e] at hg
            cases hg
            have o' := hd g d' e
            obtain ⟨qual', F'⟩ := o'.fn
            exact ⟨o'.nmd, aOf g, fdOf g, _, o'.at', F'.kp, o'.bind, all_defs hfs hd hc hb n g d' e⟩
        cst := hc
        fnm := fun x hx => by
          rcases isLoc_iff hx with q | q
          · exact ⟨.inl q, .inr q⟩
          · exact ⟨.inr q, .inl rfl⟩ }
      have so : SOk (gi.on d.g) ⟨Phi ds cst n, cst⟩ tabs d.N (defScope (stOf f)) (2 * n) (cxOf CX0 P w K mg base d.N qual (defScope (stOf f)) (aOf f) (fdOf f).code A outer s H E).nox := ⟨xo, o.sc.kind, PassesOwn.never⟩
      refine ⟨_, allSs so d.body (defBody (stOf f)) o.ok B hBt, ?_⟩
      unfold runF at hF
      split at hF
      · rename_i hl
        obtain ⟨fl, g1, hF⟩ := Res.bind_ok hF
        have lv : ps.length = vs.length := by have := hR.len; simpa using this
        refine ⟨ps ++ List.replicate (d.N.length - d.np) .no, [], [], fl, ?_, ?_, g1, ?_⟩
        · rw [List.append_nil, List.append_nil]
          have q := hR.pushNos (d.N.length - d.np)
          unfold L2.start
          rw [show d.N.length - vs.length = d.N.length - d.np by omega]
          exact q
        · unfold L2.start
          simp; omega
        · cases fl with
          | rt rr ρ' =>
            simp only at hF
            split at hF
            · rename_i hnp
              cases hF
              intro σ' v H' hl' R'
              rw [List.append_nil, List.append_nil] at R'
              have q := R.leave hR hno hl' (by omega) R'
              rw [hl] at q
              exact hQ v H' q
            · cases hF
          | nx ρ' =>
            simp only at hF
            split at hF
            · rename_i hnp
              cases hF
              intro σ' H' hl' R'
              rw [List.append_nil, List.append_nil] at R'
              have q := R.leave (r := .val .non) (v := .non) hR hno hl' (by omega) (R'.push_val .non)
              rw [hl] at q
              exact hQ .non H' q
            · cases hF
          | bk ρ' => cases hF
          | ct ρ' => cases hF
      · cases hF
end
end Gw

set_option Elab.async false
set_option linter.all false
set_option maxRecDepth 100000
set_option maxHeartbeats 4000000
/-! The value layer: a law's rounds. -/
namespace Gw
open PySem L2
/-! ### the dice, plainly -/
def diceL (c : Int) : List Int := if -10 < c ∧ c < 10 then [if c < 0 then -c else c, 0, 2] else [c, 1 + c % 1009, if 10 ^ 18 ≤ c then 1 else 0]
def diceD (c : Int) : D := .lst ((diceL c).map D.int)
def cellsOf (ns : List Int) (n : Int) : List Int := if cut ns none (some n) = [] then [0] else cut ns none (some n)
/-- a law's loop over its dice -/
def loopL (G : Glo) (i : Nat) (b : Ss) : List Int → Env → Res Env
  | [], ρ => .ok ρ
  | c :: r, ρ => (runSs G b (ρ.set i (.own (diceD c)))).bind fun f => match f with
      | .nx ρ' => loopL G i b r ρ'
      | .ct ρ' => loopL G i b r ρ'
      | _ => .stuck
section
variable {K : PySem.W.Frag} {B : Bs} {ss ts ps : List Sl} {vs us ws : List (Option V)} {H H' : Hp}
/-- back in the caller, with several results -/
theorem R.backs (hR : R K B ss vs H) (h : R K ⟨H, none, B.tabs, Mt B.Z ss vs, fun _ => none⟩ (ps ++ ts) (us ++ ws) H') (hl : ps.length = us.length) (hn : ∀ t ∈ ts, ∀ d, t ≠ .ref d) : R K B (ss ++ ts) (vs ++ ws) H' := by
  have g : Grow B.tabs H H' := ⟨fun a o q n => h.ext.stay a o q (fun ⟨j, e⟩ => by cases j <;> cases e) n, fun a ps q => h.ext.tbl a ps q, fun a ha _ => h.tab a ha⟩
  have lt : ts.length = ws.length := by have := h.len; simp at this; omega
  have upL : ∀ {j : Nat} {s : Sl}, ts[j]? = some s → (ps ++ ts)[ps.length + j]? = some s := fun {j s} e => by
    rw [List.getElem?_append_right (by omega), show ps.length + j - ps.length = j by omega]; exact e
  have upV : ∀ {j : Nat}, (us ++ ws)[ps.length + j]? = ws[j]? := fun {j} => by
    rw [hl, List.getElem?_append_right (by omega), show us.length + j - us.length = j by omega]
  have vR : ∀ {j : Nat}, ss.length ≤ j → (vs ++ ws)[j]? = ws[j - ss.length]? := fun {j} hj => by
    rw [hR.len] at hj ⊢
    rw [List.getElem?_append_right hj]
  have vL : ∀ {j : Nat}, j < ss.length → (vs ++ ws)[j]? = vs[j]? := fun {j} hj => by
    rw [hR.len] at hj
    rw [List.getElem?_append_left hj]
  -- an own one of ts: new, and none of the caller's
  have newT : ∀ {j : Nat} {s : Sl} {a : Addr}, ts[j]? = some s → s.isOwn → ws[j]? = some (some (V.ref a)) → H a = none ∧ ¬ Mt B.Z ss vs a := fun {j s a} e o v => by
    have hz := h.sepZ (ps.length + j) s a (upL e) o (by rw [upV]; exact v)
    cases s with
    | no => exact o.elim
    | val d => exact o.elim
    | ref d => exact (hn _ (List.mem_of_getElem? e) d rfl).elim
    | own d =>
      obtain ⟨b, h1, _, h3⟩ := h.own _ d (upL e)
      rw [upV, v] at h1; cases h1
      exact ⟨h3, hz⟩
  have m1 : ∀ a, Mt B.Z (ss ++ ts) (vs ++ ws) a → Mt B.Z ss vs a ∨ ∃ (j : Nat) (s : Sl), ts[j]? = some s ∧ s.isOwn ∧ ws[j]? = some (some (V.ref a)) := fun a m => m.elim (fun z => .inl (.inl z)) fun ⟨j, s, h1, h2, h3⟩ => by
    rcases getA h1 with ⟨hj, e⟩ | ⟨hj, e⟩
    · rw [vL hj] at h3
      exact .inl (.inr ⟨j, s, e, h2, h3⟩)
    · rw [vR hj] at h3
      exact .inr ⟨_, s, e, h2, h3⟩
  have m2 : ∀ a, Mt B.Z (ss ++ ts) (vs ++ ws) a → Mt (Mt B.Z ss vs) (ps ++ ts) (us ++ ws) a := fun a m => by
    rcases m1 a m with z | ⟨j, s, e, o, v⟩
    · exact .inl z
    · exact .inr ⟨ps.length + j, s, upL e, o, by rw [upV]; exact v⟩
  have st : Stay (Mt B.Z ss vs) H H' := fun a o e _ t => g.stay a o e t
  have nm : NewM (Mt B.Z ss vs) (Mt B.Z (ss ++ ts) (vs ++ ws)) H := fun a m => by
    rcases m1 a m with z | ⟨j, s, e, o, v⟩
    · exact .inl z
    · exact .inr (newT e o v).1
  have ownL : ∀ {a : Addr} {d : D}, OwnAt K (Mt B.Z ss vs) H a d → OwnAt K (Mt B.Z (ss ++ ts) (vs ++ ws)) H' a d := fun {a d} q => by
    obtain ⟨o, e, t⟩ := q.obj
    exact q.mono st nm ((g.stay a o e t).trans e.symm)
  refine ⟨by simp [hR.len, lt], fun j d e => ?_, fun j d e => ?_, fun j d e => ?_, fun j a e => ?_, fun i j s t a h1 h2 o1 o2 h3 h4 => ?_, ⟨fun a o e n t => g.stay a o (hR.ext.stay a o e n t) t, fun a ps e => ?_⟩, fun a ha => h.tab a ha, fun a ha => ?_, fun j s a h1 o1 h3 => ?_, fun a o e => ?_⟩
  · rcases getA e with ⟨hj, e⟩ | ⟨hj, e⟩
    · obtain ⟨v, h1, h2⟩ := hR.val j d e
      exact ⟨v, by rw [vL hj]; exact h1, h2.mono st nm⟩
    · obtain ⟨v, h1, h2⟩ := h.val _ d (upL e)
      rw [upV] at h1
      exact ⟨v, by rw [vR hj]; exact h1, rp_congr m2 h2⟩
  · rcases getA e with ⟨hj, e⟩ | ⟨hj, e⟩
    · obtain ⟨a, h1, h2, h3⟩ := hR.own j d e
      exact ⟨a, by rw [vL hj]; exact h1, ownL h2, h3⟩
    · obtain ⟨a, h1, h2, h3⟩ := h.own _ d (upL e)
      rw [upV] at h1
      exact ⟨a, by rw [vR hj]; exact h1, own_congr m2 h2, hR.new0 h3⟩
  · rcases getA e with ⟨hj, e⟩ | ⟨hj, e⟩
    · obtain ⟨a, h0, h1, h2⟩ := hR.ref j d e
      exact ⟨a, h0, by rw [vL hj]; exact h1, ownL h2⟩
    · exact (hn _ (List.mem_of_getElem? e) d rfl).elim
  · obtain ⟨d, h1⟩ := hR.pin j a e
    exact ⟨d, getL h1⟩
  · rcases getA h1 with ⟨hi, e1⟩ | ⟨hi, e1⟩ <;> rcases getA h2 with ⟨hj, e2⟩ | ⟨hj, e2⟩
    · rw [vL hi] at h3
      rw [vL hj] at h4
      exact hR.sep i j s t a e1 e2 o1 o2 h3 h4
    · rw [vL hi] at h3
      rw [vR hj] at h4
      exact ((newT e2 o2 h4).2 (.inr ⟨i, s, e1, o1, h3⟩)).elim
    · rw [vR hi] at h3
      rw [vL hj] at h4
      exact ((newT e1 o1 h3).2 (.inr ⟨j, t, e2, o2, h4⟩)).elim
    · rw [vR hi] at h3
      rw [vR hj] at h4
      have := h.sep _ _ s t a (upL e1) (upL e2) o1 o2 (by rw [upV]; exact h3) (by rw [upV]; exact h4)
      omega
  · obtain ⟨p1, q⟩ := hR.ext.tbl a ps e
    exact g.tbl a p1 q
  · obtain ⟨o, q, t⟩ := hR.zed a ha
    exact ⟨o, g.stay a o q t, t⟩
  · rcases getA h1 with ⟨hj, e1⟩ | ⟨hj, e1⟩
    · rw [vL hj] at h3
      exact hR.sepZ j s a e1 o1 h3
    · rw [vR hj] at h3
      exact fun z => (newT e1 o1 h3).2 (.inl z)
  · obtain ⟨q, z⟩ := hR.fix a o e
    exact ⟨g.stay a o q (fun ps e => by rw [e] at z; exact z), z⟩
end
/-! ### _law_rounds -/
def ownDice (cs : List Int) : List Sl := cs.map fun c => .own (diceD c)
def spR (K : PySem.W.Frag) (tabs : List Addr) : Sp := fun vs H Q _ => ∃ (B : Bs) (ns : List Int) (n : Int),
  B.H0 = H ∧ B.tabs = tabs ∧ B.r0 = none ∧ R K B [.val (.scr ns), .val (.int n)] (vs.map some) H ∧ (cellsOf ns n).length ≤ 1000 ∧
  ∀ (v : V) (as : List Addr) (H' : Hp), as.length = (cellsOf ns n).length → R K B ([.no, .no] ++ (.own (.lst (as.map D.adr)) :: ownDice (cellsOf ns n))) (vs.map some ++ (some v :: as.map fun a => some (V.ref a))) H' → Q v H'
def rndS : Ss := .cons (.asg 2 (.sli (.var 0) .nop (.var 1))) (.cons (.ife (.cmv .eq 2 (.lst .nil)) (.cons (.asg 2 (.lst (.cons (.cst (.int 0)) .nil))) .nil) .nil) .nil)
def rndE (f : Nat) : E := .cal f (.cons (.var 3) .nil)
def okRnd (gi : GI) (N : List Str) (sc : Scope) (f : Nat) : List Stmt → Bool
  | [s1, s2, s3] => okSs gi N sc rndS [s1, s2] && (match asRet s3 with
    | some x => okE gi N sc (.lc (rndE f) (.nm 3) (.frz (.var 2)) .nop) x
    | none => false)
  | _ => false
theorem cut_map {α β : Type} (f : α → β) (xs : List α) (lo hi : Option Int) : cut (xs.map f) lo hi = (cut xs lo hi).map f := by
  unfold cut
  rw [List.length_map, List.map_take, List.map_drop]
theorem runRnd (G : Glo) (ns : List Int) (n : Int) : runSs G rndS [.val (.scr ns), .val (.int n), .no, .no] = .ok (.nx [.val (.scr ns), .val (.int n), .own (.lst ((cellsOf ns n).map D.int)), .no]) := by
  unfold rndS cellsOf
  simp only [runSs, runS, runE, runEs, Env.put, Env.at, E.isNop, dCut, dPart, Res.ok_bind, Res.of_some, List.getElem?_cons_zero, List.getElem?_cons_succ, Option.getD_some, List.set_cons_zero, List.set_cons_succ, Rv.d, Rv.sl, if_true, cut_map, Bool.false_eq_true, if_false]
  cases e : cut ns none (some n) with
  | nil => rfl
  | cons c r =>
    have h1 : ∀ l : List Int, D.plains (l.map D.int) = true := fun l => by
      induction l with
      | nil => rfl
      | cons a l ih => simp [D.plains, D.plain, ih]
    have h2 : ∀ l : List Int, D.depths (l.map D.int) = 0 := fun l => by
      induction l with
      | nil => rfl
      | cons a l ih => simp [D.depths, D.depth, ih]
    have h3 : dCmp .eq (.lst (D.int c :: r.map D.int)) (.lst []) = some false := by
      rw [← List.map_cons]
      simp only [dCmp, dEqO, D.scal, D.flat, D.shaped, D.plain, D.depth, h1, h2]
      rfl
    simp [Sl.d?, lineOk, h3, dTruth]
section
variable {P : Program} {w : World} {K : PySem.W.Frag} {mg : Str → Option Value} {base : Heap} {gi : GI} {tabs : List Addr}
theorem rpa_ints {K : PySem.W.Frag} {M : Addr → Prop} {H : Hp} : ∀ {vs : List V} {ns : List Int}, RpA K M H vs (ns.map D.int) → vs = ns.map V.int
  | _, [], .nil => rfl
  | _, n :: ns, .cons h t => by rw [h.intV, rpa_ints t]; rfl
theorem rpa_false {K : PySem.W.Frag} {M : Addr → Prop} {H : Hp} {vs : List V} {ns : List Int} (h : RpA K M H vs (ns.map D.int)) : RpA K (fun _ => False) H vs (ns.map D.int) := by
  rw [rpa_ints h]; exact RpA.ints ns
theorem rounds_read {X : Cx} {G : Glo} {N : List Str} {sc : Scope} {k f : Nat} {B : Bs} {σ : L2.St} {H : Hp} {Q : VK} {cs : List Int} {ρ : Env} (hX : σ.length = 4) (hdice : ∀ c, G.fn f [.val (.int c)] = .ok (.own (diceD c), [.val (.int c)])) (hra : B.r0 = none)
    (hρ : ρ.length = 4) (h2 : ρ.at 2 = .own (.lst (cs.map D.int))) (h3 : ρ.at 3 = .no) (hR : R X.K B ρ σ H) (hcs : cs.length ≤ 1000)
    (hQ : ∀ (v : V) (as : List Addr) (H' : Hp), as.length = cs.length → R X.K B (ρ.set 2 (.val (.lst (cs.map D.int))) ++ (.own (.lst (as.map D.adr)) :: ownDice cs)) (σ ++ (some v :: as.map fun a => some (V.ref a))) H' → Q v H') :
    tLc (iList X.K (tE X.K B (runE G (.var 2)))) (gD X.K B (.nm 3)) (tCnd X.K B G .nop) (tE X.K B (runE G (rndE f))) [3] σ H Q := by
  have e2 : runE G (.var 2) ρ = .ok (.val (.lst (cs.map D.int)), ρ.set 2 (.val (.lst (cs.map D.int)))) := by simp only [runE, h2]
  refine ⟨ρ, [], [], _, _, by simpa using hR, by omega, e2, fun v H1 R1 => ?_⟩
  simp only [List.append_nil, Rv.sl] at R1
  obtain ⟨_, q1⟩ := R1.take1 (r := .val (.lst (cs.map D.int)))
  obtain ⟨a, xs, rfl, g1, _, g3⟩ := q1.lstV
  refine ⟨a, rfl, ⟨xs, .inl (.inl g1)⟩, fun Da hD => ?_⟩
  -- the state: the slots, the walked list, the new list, the dice
  let ρ2 : Env := ρ.set 2 (.val (.lst (cs.map D.int)))
  have l2 : ρ2.length = 4 := by simp [ρ2, hρ]
  let Sta (i : Nat) (as : List Addr) (H : Hp) : Prop := R X.K B (ρ2 ++ [Sl.val (.lst (cs.map D.int)), Sl.own (.lst (as.map D.adr))] ++ ownDice (cs.take i)) (L2.wipe σ [3] ++ [some (.ref a), some (.ref Da)] ++ as.map fun b => some (V.ref b)) H
  have lw : (L2.wipe σ [3]).length = 4 := by rw [L2.wipe_length]; exact hX
  have n3 : ρ2[3]? = some .no := by
    have : ρ2.at 3 = .no := by
      show ((ρ.set 2 (.val (.lst (cs.map D.int))))[3]?).getD .no = .no
      rw [List.getElem?_set_ne (by decide)]; exact h3
    rw [at_get (by omega), this]
  have walked : ∀ {i : Nat} {as : List Addr} {H : Hp}, Sta i as H → ∃ xs, H a = some (.lst xs) ∧ RpA X.K (fun _ => False) H xs (cs.map D.int) := fun {i as H} r => by
    obtain ⟨v, k1, k2⟩ := r.val 4 (.lst (cs.map D.int)) (by
      rw [List.append_assoc, List.getElem?_append_right (by omega), l2]; rfl)
    rw [List.append_assoc, List.getElem?_append_right (by omega), lw] at k1
    cases k1
    obtain ⟨a', xs, e, g1, _, g3⟩ := k2.lstV
    cases e
    exact ⟨xs, g1, rpa_false g3⟩
  refine ⟨fun i m H => m = cs.length - i ∧ i ≤ cs.length ∧ ∃ as : List Addr, as.length = i ∧ Sta i as H, ⟨cs.length, rfl, Nat.zero_le _, [], rfl, ?_⟩, ?_⟩
  · have R2 := R1.push_own (d := .lst []) (H' := upd H1 Da (.lst [])) hD (Grow.new hD) ⟨[], upd_same, .nil⟩
    have R3 : R X.K B (ρ2 ++ [.val (.lst (cs.map D.int)), .own (.lst [])]) (σ ++ [some (.ref a), some (.ref Da)]) (upd H1 Da (.lst [])) := by simpa using R2
    show R X.K B (ρ2 ++ [.val (.lst (cs.map D.int)), .own (.lst ([].map D.adr))] ++ ownDice (cs.take 0)) (L2.wipe σ [3] ++ [some (.ref a), some (.ref Da)] ++ ([] : List Addr).map fun b => some (V.ref b)) _
    simp only [List.map_nil, List.take_zero, ownDice, List.append_nil]
    refine R3.unwipe (by simp [L2.wipe_length]) fun j => ?_
    by_cases hj : j = 3
    · subst hj
      exact .inr (getL n3)
    · left
      by_cases hz : j < σ.length
      · rw [List.getElem?_append_left (by rw [L2.wipe_length]; exact hz), List.getElem?_append_left hz, L2.wipe_out (by simp [hj])]
      · rw [List.getElem?_append_right (by rw [L2.wipe_length]; omega), List.getElem?_append_right (by omega), L2.wipe_length]
  · rintro i m H5 ⟨rfl, hi, as, la, R5⟩
    obtain ⟨xs, gx, rx⟩ := walked R5
    have ex := rpa_ints rx
    by_cases hlt : i < cs.length
    · right
      have hci : xs[i]? = some (.int cs[i]) := by rw [ex, List.getElem?_map, List.getElem?_eq_getElem hlt]; rfl
      refine ⟨⟨xs, _, .inl (.inl gx), hci⟩, fun H' => ∃ as : List Addr, as.length = i + 1 ∧ Sta (i + 1) as H', fun H' ⟨as', q1, q2⟩ => ⟨cs.length - (i + 1), by omega, rfl, hlt, as', q1, q2⟩, fun x H' y => ?_⟩
      obtain ⟨rfl, y⟩ := y
      have hx := y xs (.inl (.inl gx))
      rw [hci] at hx
      cases hx
      have R6 := R5.push_val (v := .int cs[i]) (d := .int cs[i]) (.int _)
      have hs3 : setT (.nm 3) (.int cs[i]) ρ2 = some (ρ2.set 3 (.val (.int cs[i]))) := by
        simp only [setT, Env.put]
      refine ⟨ρ2, [Sl.val (.lst (cs.map D.int)), Sl.own (.lst (as.map D.adr))] ++ ownDice (cs.take i), [some (.ref a), some (.ref Da)] ++ as.map fun b => some (V.ref b), .int cs[i], _, by simpa using R6, by omega, hs3, fun σ2 H2 s1 s2 R7 => ?_⟩
      rw [L2.wipe_length] at s1
      have s3 : ∀ j, j ∉ [3] → σ2[j]? = σ[j]? := fun j hj => by rw [s2 j (by simpa [T.slots] using hj), L2.wipe_out hj]
      refine ⟨lwipe_eq s1 s3, ?_⟩
      refine ⟨_, _, _, true, _, R7, by simp [l2]; omega, rfl, fun H3 R8 => ?_⟩
      simp only [if_true]
      have l4 : (ρ2.set 3 (.val (.int cs[i]))).length = σ2.length := by simp [l2]; omega
      have e3 : runE G (rndE f) (ρ2.set 3 (.val (.int cs[i]))) = .ok (.own (diceD cs[i]), ρ2.set 3 (.val (.int cs[i]))) := by
        have : Env.at (ρ2.set 3 (.val (.int cs[i]))) 3 = .val (.int cs[i]) := by
          unfold Env.at
          rw [List.getElem?_set_self (by omega)]; rfl
        simp only [rndE, runE, runEs, this, Res.bind, List.map_cons, List.map_nil, Rv.d, hdice]
      refine ⟨_, _, _, _, _, R8, l4, e3, fun y H4 R9 => ?_⟩
      -- the new dice's place
      have lt2 : (ρ2.set 3 (.val (.int cs[i])) ++ ([Sl.val (.lst (cs.map D.int)), Sl.own (.lst (as.map D.adr))] ++ ownDice (cs.take i))).length = (σ2 ++ ([some (V.ref a), some (V.ref Da)] ++ as.map fun b => some (V.ref b))).length := by
        have := R8.len
        exact this
      obtain ⟨d0, k1, k2, k3⟩ := R9.own _ (diceD cs[i]) (getEnd _ _)
      rw [lt2, getEnd] at k1
      cases k1
      -- the list at Da
      have posL : (ρ2.set 3 (.val (.int cs[i])) ++ ([Sl.val (.lst (cs.map D.int)), Sl.own (.lst (as.map D.adr))] ++ ownDice (cs.take i)) ++ [(Rv.own (diceD cs[i])).sl])[5]? = some (.own (.lst (as.map D.adr))) := by
        rw [List.append_assoc, List.getElem?_append_right (by simp [l2])]
        simp [l2]
      have posV : (σ2 ++ ([some (V.ref a), some (V.ref Da)] ++ as.map fun b => some (V.ref b)) ++ [some (V.ref d0)])[5]? = some (some (.ref Da)) := by
        rw [List.append_assoc, List.getElem?_append_right (by omega), s1, hX]
        rfl
      obtain ⟨b0, j1, j2, _⟩ := R9.own 5 _ posL
      rw [posV] at j1
      cases j1
      obtain ⟨ys, j3, j4⟩ := j2
      refine ⟨ys, j3, by
        have := j4.len
        simp only [List.length_map, la] at this
        rw [this, sizeLine_eq]; omega, as ++ [d0], by simp [la], ?_⟩
      have stay : Stay (Mt B.Z (ρ2.set 3 (.val (.int cs[i])) ++ ([Sl.val (.lst (cs.map D.int)), Sl.own (.lst (as.map D.adr))] ++ ownDice (cs.take i)) ++ [(Rv.own (diceD cs[i])).sl]) (σ2 ++ ([some (V.ref a), some (V.ref Da)] ++ as.map fun b => some (V.ref b)) ++ [some (V.ref d0)])) H4 (upd H4 Da (.lst (ys ++ [.ref d0]))) := fun b o hb n _ => by
        have ne : b ≠ Da := fun e => n (by rw [e]; exact .inr ⟨5, _, posL, trivial, posV⟩)
        rw [upd_ne ne]; exact hb
      have R10 := R9.mutate (s := .own (.lst (as.map D.adr))) (s' := .own (.lst ((as ++ [d0]).map D.adr))) (d' := .lst ((as ++ [d0]).map D.adr)) (o' := .lst (ys ++ [.ref d0])) posL (.inl ⟨rfl, rfl⟩) posV
        ⟨ys ++ [.ref d0], upd_same, by rw [List.map_append]; exact (j4.mono stay fun a m => .inl m).append (.cons (.adr d0) .nil)⟩
      have es : (ρ2.set 3 (.val (.int cs[i])) ++ ([Sl.val (.lst (cs.map D.int)), Sl.own (.lst (as.map D.adr))] ++ ownDice (cs.take i)) ++ [(Rv.own (diceD cs[i])).sl]).set 5 (.own (.lst ((as ++ [d0]).map D.adr))) = ρ2.set 3 (.val (.int cs[i])) ++ ([Sl.val (.lst (cs.map D.int)), Sl.own (.lst ((as ++ [d0]).map D.adr))] ++ ownDice (cs.take (i + 1))) := by
        rw [List.append_assoc, List.set_append_right _ _ (by simp [l2])]
        simp only [List.length_set, l2]
        simp [ownDice, Rv.sl]
        rw [List.take_add_one, List.getElem?_map, List.getElem?_eq_getElem hlt]; rfl
      rw [es] at R10
      have R11 : R X.K B (ρ2.set 3 (.val (.int cs[i])) ++ ([Sl.val (.lst (cs.map D.int)), Sl.own (.lst ((as ++ [d0]).map D.adr))] ++ ownDice (cs.take (i + 1)))) (σ2 ++ ([some (V.ref a), some (V.ref Da)] ++ (as ++ [d0]).map fun b => some (V.ref b))) (upd H4 Da (.lst (ys ++ [.ref d0]))) := by simpa using R10
      have R12 := R11.wiped (sl := [3]) (σ' := L2.wipe σ [3]) l4 (by rw [L2.wipe_length, s1]) (fun j hj => by rw [L2.wipe_out hj, s3 j hj]) fun j hj => by
          have hj : j = 3 := by simpa using hj
          subst hj; rfl
      have ew : wipe (ρ2.set 3 (.val (.int cs[i]))) [3] = ρ2 := by
        show (ρ2.set 3 (.val (.int cs[i]))).set 3 .no = ρ2
        rw [List.set_set]
        apply List.ext_getElem?
        intro j
        by_cases e : 3 = j
        · subst e; rw [List.getElem?_set_self (by omega), n3]
        · rw [List.getElem?_set_ne e]
      rw [ew] at R12
      show R X.K B _ _ _
      simpa using R12
    · left
      have e : i = cs.length := by omega
      subst e
      refine ⟨⟨xs, .inl (.inl gx), by rw [ex, List.length_map]; exact Nat.le_refl _⟩, ?_⟩
      refine hQ (.ref Da) as H5 la ?_
      have R6 : R X.K B (ρ2 ++ [Sl.val (.lst (cs.map D.int)), Sl.own (.lst (as.map D.adr))] ++ ownDice (cs.take cs.length)) (σ ++ [some (.ref a), some (.ref Da)] ++ as.map fun b => some (V.ref b)) H5 := by
        refine R5.unwipe (by simp [L2.wipe_length]) fun j => ?_
        by_cases hj : j = 3
        · subst hj
          exact .inr (getL (getL n3))
        · left
          simp only [List.append_assoc]
          by_cases hz : j < σ.length
          · rw [List.getElem?_append_left hz, List.getElem?_append_left (by rw [L2.wipe_length]; exact hz), L2.wipe_out (by simp [hj])]
          · rw [List.getElem?_append_right (l₁ := σ) (by omega), List.getElem?_append_right (l₁ := L2.wipe σ [3]) (by rw [L2.wipe_length]; omega), L2.wipe_length]
      rw [List.take_length] at R6
      have R7 : R X.K B (ρ2 ++ [.val (.lst (cs.map D.int))] ++ (.own (.lst (as.map D.adr)) :: ownDice cs)) (σ ++ [some (.ref a)] ++ (some (.ref Da) :: as.map fun b => some (V.ref b))) H5 := by simpa using R6
      refine R7.drop_mid (by omega) (fun d e => by cases e) fun t ht d e => ?_
      subst e
      rcases List.mem_cons.mp ht with h | h
      · cases h
      · unfold ownDice at h
        obtain ⟨_, _, h⟩ := List.mem_map.mp h
        cases h
end
end Gw

set_option Elab.async false
set_option linter.all false
set_option maxRecDepth 100000
set_option maxHeartbeats 4000000
/-! The value layer: a law. -/
namespace Gw
open PySem L2
def rndN : List Str := ["script", "most", "cells", "cell"]
def rndS1 : S := .asg 2 (.sli (.var 0) .nop (.var 1))
def rndS2 : S := .ife (.cmv .eq 2 (.lst .nil)) (.cons (.asg 2 (.lst (.cons (.cst (.int 0)) .nil))) .nil) .nil
def okRound (gi : GI) (sc : Scope) (f : Nat) : List Stmt → Bool
  | [s1, s2, s3] => okS gi rndN sc rndS1 s1 && okS gi rndN sc rndS2 s2 && (match asRet s3 with
    | some x => match asLC x with
      | some z => blkC rndN sc z.scope (ownOf rndN [3]) && okE gi rndN sc (.var 2) z.iter && okT rndN z.scope (.nm 3) z.tg && z.ifs.isEmpty && okE gi rndN (relS z.scope sc) (rndE f) z.elt
      | none => false
    | none => false)
  | _ => false
theorem runRnd1 (G : Glo) (ns : List Int) (n : Int) : runS G rndS1 [.val (.scr ns), .val (.int n), .no, .no] = .ok (.nx [.val (.scr ns), .val (.int n), .own (.lst ((cut ns none (some n)).map D.int)), .no]) := by
  unfold rndS1
  simp only [runS, runE, Env.put, Env.at, E.isNop, dCut, dPart, Res.ok_bind, Res.of_some, List.getElem?_cons_zero, List.getElem?_cons_succ, Option.getD_some, List.set_cons_zero, List.set_cons_succ, Rv.d, Rv.sl, if_true, cut_map, Bool.false_eq_true, if_false]
theorem runRnd2 (G : Glo) (ns : List Int) (n : Int) : runS G rndS2 [.val (.scr ns), .val (.int n), .own (.lst ((cut ns none (some n)).map D.int)), .no] = .ok (.nx [.val (.scr ns), .val (.int n), .own (.lst ((cellsOf ns n).map D.int)), .no]) := by
  have h := runRnd G ns n
  unfold rndS at h
  rw [show runSs G (.cons (.asg 2 (.sli (.var 0) .nop (.var 1))) (.cons (.ife (.cmv .eq 2 (.lst .nil)) (.cons (.asg 2 (.lst (.cons (.cst (.int 0)) .nil))) .nil) .nil) .nil)) [.val (.scr ns), .val (.int n), .no, .no] = (runS G rndS1 [.val (.scr ns), .val (.int n), .no, .no]).bind fun f => match f with
    | .nx ρ' => runSs G (.cons rndS2 .nil) ρ'
    | f => .ok f from by simp only [runSs]; rfl, runRnd1, Res.ok_bind] at h
  simp only [runSs] at h
  obtain ⟨f, h1, h2⟩ := Res.bind_ok h
  rw [h1]
  cases f with
  | nx ρ => cases h2; rfl
  | _ => cases h2
section
variable {P : Program} {w : World} {K : PySem.W.Frag} {mg : Str → Option Value} {base : Heap} {gi : GI} {tabs : List Addr}
/-- the slots keep their number -/
def Ends.lens (D : Ends) (n : Nat) : Ends := { nx := fun σ H => σ.length = n → D.nx σ H, rt := D.rt, bk := fun σ H => σ.length = n → D.bk σ H, ct := fun σ H => σ.length = n → D.ct σ H }
theorem pss_len {X : Cx} {l : List Stmt} {t : TS} (h : PSs X l t) : PSs X l fun D σ H => t (Ends.lens D X.N.length) σ H := by
  refine ⟨fun pins s σ H D I q => thn (h.run pins s σ H _ I q) fun f s' z => ?_⟩
  cases f with
  | next => obtain ⟨σ', H', I', q'⟩ := z; exact ⟨σ', H', I', q' I'.len⟩
  | brk => obtain ⟨σ', H', I', q'⟩ := z; exact ⟨σ', H', I', q' I'.len⟩
  | cont => obtain ⟨σ', H', I', q'⟩ := z; exact ⟨σ', H', I', q' I'.len⟩
  | ret u => exact z
/-- what the program's top has left, for the small syntax -/
structure Text (K : PySem.W.Frag) (mg : Str → Option Value) (base : Heap) (tabs : List Addr) (gi : GI) (ds : List Df) (cst : Nat → Option D) (stOf : Nat → Stmt) (aOf : Nat → Addr) (fdOf : Nat → FuncData) : Prop where
  fs : gi.fs = ds.map (·.nm)
  df : ∀ (f : Nat) (d : Df), ds[f]? = some d → DfOk K mg base tabs gi d (stOf f) (aOf f) (fdOf f)
  cs : CstOk K mg gi cst
  blt : ∀ x ∈ bltNames, mg x = none
  off : gi.g = false
variable {ds : List Df} {cst : Nat → Option D} {stOf : Nat → Stmt} {aOf : Nat → Addr} {fdOf : Nat → FuncData}
theorem Text.xok (T : Text K mg base tabs gi ds cst stOf aOf fdOf) {N ps : List Str} {st : Stmt} {qual : Str} {a : Addr} {cdv : Value} {A : Around} {outer : List PySem.Env} {s : Shared} {H : Hp} {E : XK} {n : Nat} (sc : FnScope N ps (defScope st)) (dbg : ∀ x ∈ N, (x == ("__debug__" : Str)) = false ∧ (x == ("__classdict__" : Str)) = false) (hr : Room (2 * n + 1) (A.deeper (PyProof.Rows.envOfC qual (defScope st) s.heap.objs.size a cdv))) {b : Bool} (tab : b = true → ∃ c P : Addr, cdv = .ref c ∧ GxR.TabB base mg c P ∧ P ∈ tabs) :
    SOk (gi.on b) ⟨Phi ds cst n, cst⟩ tabs N (defScope st) (2 * n) (cxOf CX0 P w K mg base N qual (defScope st) a cdv A outer s H E).nox := by
  refine ⟨?_, sc.kind, PassesOwn.never⟩
  exact {
    hN := rfl
    sc := rfl
    calm := rfl
    nd := sc.nd
    dbg := dbg
    room := hr.mono (by omega)
    roomG := fun _ => hr
    code := fun h => tab h
    blt := T.blt
    fn := fun g nm hg => by
      have hg : gi.fs[g]? = some nm := hg
      rw [T.fs, List.getElem?_map] at hg
      cases e : ds[g]? with
      | none => rw [e] at hg; cases hg
      | some d' =>
        rw [e] at hg
        cases hg
        have o' := T.df g d' e
        obtain ⟨qual', F'⟩ := o'.fn
        exact ⟨o'.nmd, aOf g, fdOf g, _, o'.at', F'.kp, o'.bind, all_defs T.fs T.df T.cs T.blt n g d' e⟩
    cst := T.cs
    fnm := fun x hx => by
      rcases isLoc_iff hx with q | q
      · exact ⟨.inl q, .inr q⟩
      · exact ⟨.inr q, .inl rfl⟩ }
theorem spR_len : ∀ vs H Q E, spR K tabs vs H Q E → vs.length = 2 := fun vs H Q E ⟨B, ns, n, _, _, _, hR, _⟩ => by
  have := hR.len
  simpa using this.symm
theorem len3l {α : Type} {l : List α} (h : l.length = 3) : ∃ a b c, l = [a, b, c] := len3 h
/-- _law_rounds -/
theorem rounds_fn (T : Text K mg base tabs gi ds cst stOf aOf fdOf) {st : Stmt} {qual : Str} {a : Addr} {fd : FuncData} {n f : Nat} (F : Fun K "_law_rounds" qual st a fd) (sc : FnScope rndN ["script", "most"] (defScope st)) (ok : okRound gi (defScope st) f (defBody st) = true)
    (hdice : ∀ c, Phi ds cst n f [.val (.int c)] = .ok (.own (diceD c), [.val (.int c)])) : FnOk P w K mg base CX0 (2 * (n + 1)) a fd ["script", "most"] (spR K tabs) := by
  refine okFn (k := 2 * n + 1) F sc (fun vs H Q E h => spR_len vs H Q E h) fun A outer s H vs Q E hr h => ?_
  have eoff : gi.on false = gi := by
    have := T.off
    cases gi
    cases this
    rfl
  have so := T.xok (P := P) (w := w) (base := base) (tabs := tabs) (qual := qual) (a := a) (cdv := fd.code) (outer := outer) (H := H) (E := E) sc (by decide +kernel) hr (b := false) (fun h => by cases h)
  rw [eoff] at so
  generalize fd.code = cdv at so ⊢
  obtain ⟨B, ns, m, hB0, hBt, hra, hR, hlen, hQ⟩ := h
  have lv := spR_len (K := K) (tabs := tabs) vs H Q E ⟨B, ns, m, hB0, hBt, hra, hR, hlen, hQ⟩
  unfold okRound at ok
  split at ok
  · rename_i s1 s2 s3 e
    rw [e]
    simp only [Bool.and_eq_true] at ok
    obtain ⟨⟨o1, o2⟩, o3⟩ := ok
    cases e1 : asRet s3 with
    | none => rw [e1] at o3; cases o3
    | some x =>
      rw [e1] at o3
      obtain ⟨p, rfl⟩ := asRet_some e1
      simp only at o3
      cases e2 : asLC x with
      | none => rw [e2] at o3; cases o3
      | some z =>
        rw [e2] at o3
        simp only [Bool.and_eq_true] at o3
        obtain ⟨pos, rfl⟩ := asLC_some e2
        obtain ⟨⟨⟨⟨h1, h2⟩, h3⟩, h4⟩, h5⟩ := o3
        have hz : z.ifs = [] := by simpa using h4
        have ob := fun s H C cl fp => so.x.blk z.scope s H C cl fp
        have q := pe_lc (X := (cxOf CX0 P w K mg base rndN qual (defScope st) a cdv A outer s H E).nox) (pos := pos) (own := ownOf rndN [3]) (tg := z.tg) (elt := z.elt) (te := tE K B (runE ⟨Phi ds cst n, cst⟩ (rndE f))) (tt := tCnd K B ⟨Phi ds cst n, cst⟩ .nop) (g := gD K B (.nm 3)) rfl sc.nd (pi_list ((allE (.var 2)).se so.x z.iter h2 B hBt)) (blkOk_by h1) (fun s H C cl fp => pg_ok (ob s H C cl fp) B (.nm 3) z.tg h3) (fun s H C cl fp => snd_ifs (c := .nop) (ifs := z.ifs) (by rw [hz]; rfl) ((allE .nop).st (ob s H C cl fp)) B hBt) (fun s H C cl fp => (allE (rndE f)).se (ob s H C cl fp) z.elt h5 B hBt) (notsetI (by cases e9 : z.iter <;> rw [e9] at h2 <;> first | rfl | (simp [okE, okV, asName] at h2)) _)
        rw [own_slots] at q
        refine ⟨_, pss_cons (allS so rndS1 s1 o1 B hBt) (pss_cons (allS so rndS2 s2 o2 B hBt) (pss_one (ps_ret q))), ?_⟩
        obtain ⟨v1, v2, rfl⟩ := len2 lv
        refine ⟨[.val (.scr ns), .val (.int m), .no, .no], [], [], _, ?_, rfl, runRnd1 _ ns m, fun σ1 H1 l1 R1 => ?_⟩
        · show R K B _ _ H
          have q9 := hR.pushNos 2
          simpa [L2.start, rndN] using q9
        · refine ⟨_, [], [], _, R1, l1, runRnd2 _ ns m, fun σ2 H2 l2 R2 => ?_⟩
          rw [List.append_nil, List.append_nil] at R2
          have s2l : σ2.length = 4 := by have := R2.len; simpa using this.symm
          refine rounds_read (X := (cxOf CX0 P w K mg base rndN qual (defScope st) a cdv A outer s H E).nox) (G := ⟨Phi ds cst n, cst⟩) (N := rndN) (sc := defScope st) (k := 2 * n) (cs := cellsOf ns m) s2l hdice hra rfl rfl rfl R2 hlen fun v as H' la R3 => ?_
          refine hQ v as H' la ?_
          refine R3.sel (fun j => if j < 2 then j else j + 2) ?_ (fun j t ht => ?_) (fun i j s1 t1 g1 g2 o1 o2 e => ?_) (fun j d hd => ?_) fun j d hd => ?_
          · simp [ownDice, la]
          · rcases getA ht with ⟨hj, g⟩ | ⟨hj, g⟩
            · left
              have hj : j < 2 := hj
              match j, hj, g with
              | 0, _, g => cases g; rfl
              | 1, _, g => cases g; rfl
            · right
              have hj : 2 ≤ j := hj
              rw [if_neg (by omega)]
              constructor
              · rw [List.getElem?_append_right (by simp; omega)]
                simp only [List.length_set, List.length_cons, List.length_nil]
                rw [show j + 2 - (0 + 1 + 1 + 1 + 1) = j - 2 by omega]
                exact g
              · rw [List.getElem?_append_right (by simp; omega), List.getElem?_append_right (by omega), s2l]
                simp only [List.length_map, List.length_cons, List.length_nil]
                rw [show j + 2 - 4 = j - (0 + 1 + 1) by omega]
          · split at e <;> split at e <;> omega
          · rcases getA hd with ⟨hj, g⟩ | ⟨hj, g⟩
            · have hj : j < 2 := hj
              rw [if_pos hj]
            · exfalso
              rcases List.mem_cons.mp (List.mem_of_getElem? g) with z | z
              · cases z
              · unfold ownDice at z
                obtain ⟨_, _, z⟩ := List.mem_map.mp z
                cases z
          · exfalso
            rcases getA hd with ⟨hj, g⟩ | ⟨hj, g⟩
            · have hj : j < 4 := hj
              match j, hj, g with
              | 0, _, g => cases g
              | 1, _, g => cases g
              | 2, _, g => cases g
              | 3, _, g => cases g
            · rcases List.mem_cons.mp (List.mem_of_getElem? g) with z | z
              · cases z
              · unfold ownDice at z
                obtain ⟨_, _, z⟩ := List.mem_map.mp z
                cases z
  · cases ok
/-! ### the law itself -/
def spL (K : PySem.W.Frag) (tabs : List Addr) : Sp := fun vs H Q _ => ∃ (a : Addr) (ns : List Int), vs = [.ref a] ∧ Rp K (fun _ => False) H (.ref a) (.scr ns) ∧ (∀ t ∈ tabs, TabG H t) ∧ ns.length ≤ 63 ∧ ∀ H', Q (.bl true) H'
def okLaw (gi : GI) (N : List Str) (sc : Scope) (n : Int) (b : Ss) (e : E) : List Stmt → Bool
  | [s1, s2] => (match asFor s1 with
    | some (tg, it, body) => okT N sc (.nm 1) tg && (match asCall it with
      | some (g, [x, y]) => decide (g = ("_law_rounds" : Str)) && isGl sc g && okV N sc 0 x && okE gi N sc (.cst (.int n)) y
      | _ => false) && okSs gi N sc b body
    | none => false) && okS gi N sc (.ret e) s2
  | _ => false
/-- what a law's loop and its last row give -/
def LawRuns (G : Glo) (nn : Nat) (n : Int) (b : Ss) (e : E) (ns : List Int) : Prop := ∃ ρ' ρ'' : Env, loopL G 1 b (cellsOf ns n) (.val (.scr ns) :: List.replicate (nn - 1) .no) = .ok ρ' ∧ runE G e ρ' = .ok (.val (.bl true), ρ'')
theorem cellsOf_len (ns : List Int) (n : Int) (h : ns.length ≤ 63) : (cellsOf ns n).length ≤ 1000 := by
  unfold cellsOf
  split
  · simp
  · unfold cut
    rw [List.length_take, List.length_drop]
    omega
theorem law_fn (T : Text K mg base tabs gi ds cst stOf aOf fdOf) {st : Stmt} {qual : Str} {a aR : Addr} {fd fdR : FuncData} {nn f nc : Nat} {N : List Str} {n : Int} {b : Ss} {e : E} (F : Fun K "law" qual st a fd) (sc : FnScope N ["script"] (defScope st)) (dbg : ∀ x ∈ N, (x == ("__debug__" : Str)) = false ∧ (x == ("__classdict__" : Str)) = false)
    (hN : N.length = nn + 2) {lg : Bool} (tab : lg = true → ∃ c P : Addr, fd.code = .ref c ∧ GxR.TabB base mg c P ∧ P ∈ tabs) (ok : okLaw (gi.on lg) N (defScope st) n b e (defBody st) = true) (mR : mg "_law_rounds" = some (.ref aR)) (kR : PySem.W.keepIn K (.ref aR) = true) (bR : Binds K fdR ["script", "most"] []) (FR : FnOk P w K mg base CX0 (2 * nc) aR fdR ["script", "most"] (spR K tabs))
    (hsem : ∀ ns : List Int, ns.length ≤ 63 → LawRuns ⟨Phi ds cst nc, cst⟩ (nn + 2) n b e ns) : FnOk P w K mg base CX0 (2 * (nc + 1)) a fd ["script"] (spL K tabs) := by
  refine okFn (k := 2 * nc + 1) F sc (fun vs H Q E ⟨_, _, h, _⟩ => by rw [h]; rfl) fun A outer s H vs Q E hr h => ?_
  have so := T.xok (P := P) (w := w) (base := base) (tabs := tabs) (qual := qual) (a := a) (cdv := fd.code) (outer := outer) (H := H) (E := E) sc dbg hr tab
  generalize fd.code = cdv at so ⊢
  obtain ⟨sa, ns, rfl, hscr, htab, hlen, hQ⟩ := h
  unfold okLaw at ok
  split at ok
  · rename_i s1 s2 e0
    rw [e0]
    simp only [Bool.and_eq_true] at ok
    obtain ⟨o1, o2⟩ := ok
    cases e1 : asFor s1 with
    | none => rw [e1] at o1; cases o1
    | some zz =>
      obtain ⟨tg, it, body⟩ := zz
      rw [e1] at o1
      obtain ⟨p, rfl⟩ := asFor_some e1
      simp only [Bool.and_eq_true] at o1
      obtain ⟨⟨ht, hc⟩, hb⟩ := o1
      split at hc
      · rename_i g x y e2
        simp only [Bool.and_eq_true, decide_eq_true_eq] at hc
        obtain ⟨p2, pos2, rfl⟩ := asCall_some e2
        obtain ⟨⟨⟨rfl, hg⟩, hx⟩, hy⟩ := hc
        -- the base of the whole
        let B : Bs := ⟨H, none, tabs, fun _ => False, fun _ => none⟩
        have R0 : R K B [.val (.scr ns)] [some (.ref sa)] H := by
          have mm : ∀ a, Mt B.Z [Sl.val (.scr ns)] [some (V.ref sa)] a → False := fun a m => m.elim (fun z => z) fun ⟨j, s, h1, h2, _⟩ => by
            match j, h1 with
            | 0, h1 => cases h1; exact h2
          refine ⟨rfl, fun j d h1 => ?_, fun j d h1 => ?_, fun j d h1 => ?_, fun j a h1 => (by cases j <;> cases h1), fun i j s t a h1 _ o1 => ?_, ⟨fun a o h _ _ => h, fun a ps h => ⟨ps, h⟩⟩, htab, fun a z => z.elim, fun j s a h1 o1 => ?_, fun a o z => (by cases z)⟩
          · match j, h1 with
            | 0, h1 => cases h1; exact ⟨_, rfl, rp_congr (fun a m => (mm a m).elim) hscr⟩
          · match j, h1 with
            | 0, h1 => cases h1
          · match j, h1 with
            | 0, h1 => cases h1
          · match i, h1 with
            | 0, h1 => cases h1; exact o1.elim
          · match j, h1 with
            | 0, h1 => cases h1; exact o1.elim
        obtain ⟨ρF, ρG, hloop, hend⟩ := hsem ns hlen
        have hst : isStar x = false := (okV_set hx).2
        have pcall := pe_call (X := (cxOf CX0 P w K mg base N qual (defScope st) a cdv A outer s H E).nox) (p := p2) (pos := pos2) FR so.x.room (so.x.gl hg) mR kR bR .nil pass0 (pa_cons (so.x.var hx) (pa_cons ((allE (.cst (.int n))).se so.x y hy B rfl) pa_nil (star_of (by
          cases e9 : y <;> rw [e9] at hy <;> first | rfl | (simp [okE, asConst] at hy)))) (star_of hst)) (by decide +kernel) (star_of hst) (by
          show (backTo pos2 (starEach [y] _)).any (·.1) = false
          rw [star_of (by cases e9 : y <;> rw [e9] at hy <;> first | rfl | (simp [okE, asConst] at hy))]
          rfl)
        have hN0 : N[1]? ≠ none := by
          intro z
          rw [List.getElem?_eq_none_iff] at z
          omega
        obtain ⟨py, pt, htg, hNy, hloc⟩ : ∃ (yn : Str) (pp : Pos), tg = .Name yn pp ∧ N[1]? = some yn ∧ isLoc (defScope st) yn = true := by
          simp only [okT] at ht
          cases e9 : asName tg with
          | none => rw [e9] at ht; cases ht
          | some yn =>
            rw [e9] at ht
            simp only [Bool.and_eq_true, decide_eq_true_eq] at ht
            obtain ⟨pp, rfl⟩ := asName_some e9
            exact ⟨yn, pp, rfl, ht.1, ht.2⟩
        subst htg
        have hfl := so.x.fnm py hloc
        refine ⟨_, pss_cons (ps_for so.hp rfl (pi_list pcall) (pg_name (i := 1) sc.nd hNy hfl.1 hfl.2) (pss_len (allSs so b body hb B rfl)) (fun _ => rfl)) (pss_one (allS so (.ret e) s2 o2 B rfl)), ?_⟩
        -- _law_rounds(script, n)
        let ρ0 : Env := .val (.scr ns) :: List.replicate (nn + 1) .no
        have Rs : R K B ρ0 (L2.start N [.ref sa]) H := by
          have q := R0.pushNos (nn + 1)
          have es : L2.start N [.ref sa] = [some (.ref sa)] ++ List.replicate (nn + 1) none := by
            unfold L2.start
            rw [hN]
            rfl
          rw [es]
          exact q
        have ls : (L2.start N [V.ref sa]).length = nn + 2 := by have := Rs.len; simp [ρ0] at this; omega
        refine ⟨.ref sa, ?_, ρ0, [], [], .val (.int n), ρ0, (by rw [List.append_nil, List.append_nil]; exact Rs), by simp [ρ0, ls], rfl, fun v H1 R1 => ?_⟩
        · have := Rs.val 0 (.scr ns) rfl
          obtain ⟨v, h1, h2⟩ := this
          show (L2.start N [V.ref sa])[0]? = _
          unfold L2.start
          rfl
        · simp only [List.append_nil, Rv.sl] at R1
          obtain ⟨q0, q1⟩ := R1.take1 (r := .val (.int n))
          have ev : v = .int n := q1.intV
          subst ev
          obtain ⟨u, k1, k2⟩ := q0.val 0 (.scr ns) rfl
          have eu : u = .ref sa := by
            have : (L2.start N [V.ref sa])[0]? = some (some (V.ref sa)) := by unfold L2.start; rfl
            rw [this] at k1; cases k1; rfl
          subst eu
          refine ⟨⟨H1, none, tabs, Mt B.Z ρ0 (L2.start N [V.ref sa]), fun _ => none⟩, ns, n, rfl, rfl, rfl, ?_, cellsOf_len ns n hlen, fun v as H2 la R2 => ?_⟩
          · exact q0.entry (us := [.ref sa, .int n]) (ds := [.scr ns, .int n]) (.cons k2 (.cons (.int n) .nil))
          · have R3 := q0.backs R2 (by rfl) (fun t ht d e => by
              subst e
              rcases List.mem_cons.mp ht with z | z
              · cases z
              · unfold ownDice at z
                obtain ⟨_, _, z⟩ := List.mem_map.mp z
                cases z)
            obtain ⟨pL, k3, k4, _⟩ := R3.own (nn + 2) (.lst (as.map D.adr)) (by
              rw [List.getElem?_append_right (by simp [ρ0]), show nn + 2 - ρ0.length = 0 by simp [ρ0]]
              rfl)
            rw [List.getElem?_append_right (by rw [ls]; exact Nat.le_refl _), ls, Nat.sub_self] at k3
            cases k3
            obtain ⟨xs, k5, k6⟩ := k4
            have adr_eq : ∀ {M : Addr → Prop} {H : Hp} {xs : List V} {as : List Addr}, RpA K M H xs (as.map D.adr) → xs = as.map V.ref := fun {M H xs as} r => by
              induction as generalizing xs with
              | nil => cases r; rfl
              | cons a as ih =>
                cases r with
                | cons h t => rw [h.adrV, ih t]; rfl
            refine ⟨pL, rfl, ⟨xs, .inl (.inl k5)⟩, fun i m σ H => m = (cellsOf ns n).length - i ∧ i ≤ (cellsOf ns n).length ∧ ∃ ρi : Env, ρi.length = nn + 2 ∧ σ.length = nn + 2 ∧ R K B (ρi ++ (.own (.lst (as.map D.adr)) :: ownDice ((cellsOf ns n).drop i))) (σ ++ (some (.ref pL) :: (as.drop i).map fun a => some (V.ref a))) H ∧ loopL ⟨Phi ds cst nc, cst⟩ 1 b ((cellsOf ns n).drop i) ρi = .ok ρF, ⟨_, rfl, Nat.zero_le _, ρ0, by simp [ρ0], ls, R3, hloop⟩, ?_⟩
            rintro i m σ5 H5 ⟨rfl, hi, ρi, li, lσ, R5, gl⟩
            obtain ⟨pL', j3, j4, _⟩ := R5.own (nn + 2) (.lst (as.map D.adr)) (by
              rw [List.getElem?_append_right (by omega), show nn + 2 - ρi.length = 0 by omega]
              rfl)
            rw [List.getElem?_append_right (by omega), lσ, Nat.sub_self] at j3
            cases j3
            obtain ⟨ys, j5, j6⟩ := j4
            have ey := adr_eq j6
            by_cases hlt : i < (cellsOf ns n).length
            · right
              have hai : i < as.length := by omega
              have hyi : ys[i]? = some (.ref as[i]) := by rw [ey, List.getElem?_map, List.getElem?_eq_getElem hai]; rfl
              have hdr : (cellsOf ns n).drop i = (cellsOf ns n)[i] :: (cellsOf ns n).drop (i + 1) := List.drop_eq_getElem_cons hlt
              have hda : as.drop i = as[i] :: as.drop (i + 1) := List.drop_eq_getElem_cons hai
              rw [hdr] at gl R5
              rw [hda] at R5
              obtain ⟨f1, g1, gl⟩ : ∃ f1, runSs ⟨Phi ds cst nc, cst⟩ b (ρi.set 1 (.own (diceD (cellsOf ns n)[i]))) = .ok f1 ∧ (match f1 with
                | .nx ρ' => loopL ⟨Phi ds cst nc, cst⟩ 1 b ((cellsOf ns n).drop (i + 1)) ρ'
                | .ct ρ' => loopL ⟨Phi ds cst nc, cst⟩ 1 b ((cellsOf ns n).drop (i + 1)) ρ'
                | _ => .stuck) = .ok ρF := by
                exact Res.bind_ok gl
              refine ⟨⟨ys, _, .inl (.inl j5), hyi⟩, fun σ' H' => ∃ ρi : Env, ρi.length = nn + 2 ∧ σ'.length = nn + 2 ∧ R K B (ρi ++ (.own (.lst (as.map D.adr)) :: ownDice ((cellsOf ns n).drop (i + 1)))) (σ' ++ (some (.ref pL) :: (as.drop (i + 1)).map fun a => some (V.ref a))) H' ∧ loopL ⟨Phi ds cst nc, cst⟩ 1 b ((cellsOf ns n).drop (i + 1)) ρi = .ok ρF, fun σ' H' ⟨ρi', q1, q2, q3, q4⟩ => ⟨(cellsOf ns n).length - (i + 1), by omega, rfl, hlt, ρi', q1, q2, q3, q4⟩, fun x H' y => ?_⟩
              obtain ⟨rfl, y⟩ := y
              have hx2 := y ys (.inl (.inl j5))
              rw [hyi] at hx2
              cases hx2
              -- dice = ..
              have R6 : R K B (ρi.set 1 (.own (diceD (cellsOf ns n)[i])) ++ (.own (.lst (as.map D.adr)) :: ownDice ((cellsOf ns n).drop (i + 1)))) (σ5.set 1 (some (.ref as[i])) ++ (some (.ref pL) :: (as.drop (i + 1)).map fun a => some (V.ref a))) H' := by
                refine R5.sel (fun j => if j = 1 then nn + 3 else if j < nn + 3 then j else j + 1) ?_ (fun j t ht => .inr ?_) (fun i1 j1 s1 t1 g1 g2 o1 o2 e => ?_) (fun j d hd => ?_) fun j d hd => ?_
                · have := R5.len
                  simp [ownDice] at this ⊢
                  omega
                · by_cases hj1 : j = 1
                  · subst hj1
                    rw [if_pos rfl]
                    rw [List.getElem?_append_left (by simp; omega), List.getElem?_set_self (by omega)] at ht
                    cases ht
                    constructor
                    · rw [List.getElem?_append_right (by omega), show nn + 3 - ρi.length = 1 by omega]
                      rfl
                    · rw [List.getElem?_append_left (by simp; omega), List.getElem?_set_self (by omega), List.getElem?_append_right (by omega), show nn + 3 - σ5.length = 1 by omega]
                      rfl
                  · rw [if_neg hj1]
                    by_cases hj2 : j < nn + 2
                    · rw [if_pos (by omega)]
                      rw [List.getElem?_append_left (by simp; omega), List.getElem?_set_ne (Ne.symm hj1)] at ht
                      constructor
                      · rw [List.getElem?_append_left (by omega)]; exact ht
                      · rw [List.getElem?_append_left (by simp; omega), List.getElem?_set_ne (Ne.symm hj1), List.getElem?_append_left (by omega)]
                    · rw [List.getElem?_append_right (by simp; omega)] at ht
                      simp only [List.length_set] at ht
                      by_cases hj3 : j < nn + 3
                      · rw [if_pos hj3]
                        have : j = nn + 2 := by omega
                        subst this
                        rw [show nn + 2 - ρi.length = 0 by omega] at ht
                        constructor
                        · rw [List.getElem?_append_right (by omega), show nn + 2 - ρi.length = 0 by omega]; exact ht
                        · rw [List.getElem?_append_right (by simp; omega), List.getElem?_append_right (by omega), List.length_set]
                          rw [show nn + 2 - σ5.length = 0 by omega]; rfl
                      · rw [if_neg hj3]
                        obtain ⟨k, rfl⟩ : ∃ k, j = nn + 3 + k := ⟨j - (nn + 3), by omega⟩
                        rw [show nn + 3 + k - ρi.length = k + 1 by omega, List.getElem?_cons_succ] at ht
                        constructor
                        · rw [List.getElem?_append_right (by omega), show nn + 3 + k + 1 - ρi.length = k + 1 + 1 by omega]
                          exact ht
                        · rw [List.getElem?_append_right (by simp; omega), List.getElem?_append_right (by omega), List.length_set, show nn + 3 + k - σ5.length = k + 1 by omega, show nn + 3 + k + 1 - σ5.length = k + 1 + 1 by omega]
                          rfl
                · have q1 : i1 = 1 → j1 ≠ 1 → False := fun h1 h2 => by
                    subst h1
                    rw [if_pos rfl, if_neg h2] at e
                    split at e <;> omega
                  have q2 : j1 = 1 → i1 ≠ 1 → False := fun h1 h2 => by
                    subst h1
                    rw [if_pos rfl, if_neg h2] at e
                    split at e <;> omega
                  by_cases h1 : i1 = 1 <;> by_cases h2 : j1 = 1
                  · omega
                  · exact (q1 h1 h2).elim
                  · exact (q2 h2 h1).elim
                  · rw [if_neg h1, if_neg h2] at e
                    split at e <;> split at e <;> omega
                · exfalso
                  obtain ⟨aa, z, _⟩ : ∃ aa, B.ra j = some aa ∧ True := by
                    by_cases hj : j = 1
                    · subst hj
                      rw [List.getElem?_append_left (by simp; omega), List.getElem?_set_self (by omega)] at hd
                      cases hd
                    · by_cases hj2 : j < nn + 2
                      · rw [List.getElem?_append_left (by simp; omega), List.getElem?_set_ne (Ne.symm hj)] at hd
                        obtain ⟨aa, z, _⟩ := R5.ref j d (getL hd)
                        exact ⟨aa, z, trivial⟩
                      · rw [List.getElem?_append_right (by simp; omega)] at hd
                        rcases List.mem_cons.mp (List.mem_of_getElem? hd) with z | z
                        · cases z
                        · unfold ownDice at z
                          obtain ⟨_, _, z⟩ := List.mem_map.mp z
                          cases z
                  cases j <;> cases z
                · exfalso
                  obtain ⟨aa, z, _⟩ := R5.ref j d hd
                  cases j <;> cases z
              refine ⟨ρi.set 1 (.own (diceD (cellsOf ns n)[i])), _, _, f1, R6, by simp [li, lσ], g1, ?_⟩
              have fin : ∀ (ρ' : Env), loopL ⟨Phi ds cst nc, cst⟩ 1 b ((cellsOf ns n).drop (i + 1)) ρ' = .ok ρF → ∀ (σ' : List (Option V)) (H' : Hp), ρ'.length = σ'.length → R K B (ρ' ++ (.own (.lst (as.map D.adr)) :: ownDice ((cellsOf ns n).drop (i + 1)))) (σ' ++ (some (.ref pL) :: (as.drop (i + 1)).map fun a => some (V.ref a))) H' → σ'.length = (cxOf CX0 P w K mg base N qual (defScope st) a cdv A outer s H E).nox.N.length → ∃ ρi : Env, ρi.length = nn + 2 ∧ σ'.length = nn + 2 ∧ R K B (ρi ++ (.own (.lst (as.map D.adr)) :: ownDice ((cellsOf ns n).drop (i + 1)))) (σ' ++ (some (.ref pL) :: (as.drop (i + 1)).map fun a => some (V.ref a))) H' ∧ loopL ⟨Phi ds cst nc, cst⟩ 1 b ((cellsOf ns n).drop (i + 1)) ρi = .ok ρF := fun ρ' q σ' H' lq Rq hl => by
                have hl : σ'.length = N.length := hl
                exact ⟨ρ', by omega, by omega, Rq, q⟩
              cases f1 with
              | nx ρ' => exact fin ρ' gl
              | ct ρ' => exact fin ρ' gl
              | bk ρ' => cases gl
              | rt r ρ' => cases gl
            · left
              have ei : i = (cellsOf ns n).length := by omega
              subst ei
              rw [List.drop_length] at gl R5
              have gl : ρi = ρF := by cases gl; rfl
              subst gl
              refine ⟨⟨ys, .inl (.inl j5), by rw [ey, List.length_map]; omega⟩, ?_⟩
              refine ⟨ρi, _, _, .rt (.val (.bl true)) ρG, R5, (by omega), (by simp only [runS, hend, Res.ok_bind]), fun σ' v H' lq Rq => ?_⟩
              obtain ⟨_, q⟩ := Rq.take1 (r := .val (.bl true))
              have : v = .bl true := q.blV
              subst this
              exact hQ H'
      · cases hc
  · cases ok
end
end Gw

set_option Elab.async false
set_option linter.all false
set_option maxRecDepth 100000
set_option maxHeartbeats 4000000
namespace GwK
open PySem L2 Gw
def topS (i : Nat) : Stmt := PySem.Challenge.pw_gardenworks_k07_far_turns_without_growin.main.body.getD i (.Pass ⟨0, 0, 0, 0⟩)
def ir_is_whole : Ss := (.cons (.ret (.and (.isi .int (.var 0)) (.and (.not (.isi .bool (.var 0))) (.chn .le .le (.var 1) (.var 0) (.var 2))))) .nil)
def nm_is_whole : List Str := ["thing", "low", "high"]
def ir_check_whole : Ss := (.cons (.ife (.not (.cal 0 (.cons (.var 0) (.cons (.var 1) (.cons (.var 2) .nil))))) (.cons .bad .nil) .nil) .nil)
def nm_check_whole : List Str := ["thing", "low", "high"]
def ir_counts : Ss := (.cons (.ret (.bi .tuple (.cons (.lc (.sme .count (.var 1) (.var 2)) (.nm 2) (.frz (.var 0)) .nop) .nil))) .nil)
def nm_counts : List Str := ["letters", "word", "letter"]
def ir_table_of : Ss := (.cons (.ret (.bi .tuple (.cons (.lc (.bi .tuple (.cons (.lc (.sme .count (.idv 0 (.var 2)) (.var 3)) (.nm 2) (.frz (.var 1)) .nop) .nil)) (.nm 3) (.frz (.var 1)) .nop) .nil))) .nil)
def nm_table_of : List Str := ["growths", "letters", "letter", "one"]
def ir_times : Ss := (.cons (.asg 2 (.lrg (.lenv 0))) (.cons (.ret (.bi .tuple (.cons (.lc (.bi .tuple (.cons (.lc (.gen .sum (.bin .mul (.idx (.idv 0 (.var 5)) (.var 3)) (.idx (.idv 1 (.var 3)) (.var 4))) (.nm 3) (.frz (.var 2)) .nop) (.nm 4) (.frz (.var 2)) .nop) .nil)) (.nm 5) (.frz (.var 2)) .nop) .nil))) .nil))
def nm_times : List Str := ["one", "other", "size", "i", "j", "k"]
def ir_table_power : Ss := (.cons (.asg 2 (.lenv 0)) (.cons (.asg 3 (.bi .tuple (.cons (.lc (.bi .tuple (.cons (.lc (.bi .int (.cons (.cmv .eq 5 (.var 4)) .nil)) (.nm 4) (.rng (.cons (.var 2) .nil)) .nop) .nil)) (.nm 5) (.rng (.cons (.var 2) .nil)) .nop) .nil))) (.cons (.whl 100000 (.cmv .gt 1 (.cst (.int 0))) (.cons (.ife (.cmp .eq (.bin .mod (.var 1) (.cst (.int 2))) (.cst (.int 1))) (.cons (.asg 3 (.cal 4 (.cons (.var 3) (.cons (.var 0) .nil)))) .nil) .nil) (.cons (.par [0, 1] (.cons (.cal 4 (.cons (.var 0) (.cons (.var 0) .nil))) (.cons (.bin .fdiv (.var 1) (.cst (.int 2))) .nil))) .nil))) (.cons (.ret (.var 3)) .nil))))
def nm_table_power : List Str := ["table", "many", "size", "found", "j", "k"]
def ir_counts_after : Ss := (.cons (.exp (.cal 1 (.cons (.var 3) (.cons (.cst (.int 0)) (.cons (.glb 0) .nil))))) (.cons (.ife (.not (.gen .all (.inv .isin (.var 4) 1) (.nm 4) (.frz (.var 2)) .nop)) (.cons .bad .nil) .nil) (.cons (.unp (.tu [(.nm 5), (.nm 6)]) (.tup (.cons (.cal 5 (.cons (.cal 3 (.cons (.var 0) (.cons (.var 1) .nil))) (.cons (.var 3) .nil))) (.cons (.cal 2 (.cons (.var 1) (.cons (.var 2) .nil))) .nil)))) (.cons (.ret (.bi .tuple (.cons (.lc (.gen .sum (.bin .mul (.idv 8 (.var 7)) (.idv 6 (.var 7))) (.nm 7) (.rng (.cons (.lenv 1) .nil)) .nop) (.nm 8) (.frz (.var 5)) .nop) .nil))) .nil))))
def nm_counts_after : List Str := ["growths", "letters", "word", "turns", "letter", "power", "first", "k", "row"]
def ir_length_after : Ss := (.cons (.ret (.bi .sum (.cons (.cal 6 (.cons (.var 0) (.cons (.var 1) (.cons (.var 2) (.cons (.var 3) .nil))))) .nil))) .nil)
def nm_length_after : List Str := ["growths", "letters", "word", "turns"]
def ir_lengths_table : Ss := (.cons (.asg 3 (.lst (.cons (.dc (.var 4) (.cst (.int 1)) (.nm 4) (.frz (.var 1)) .nop) .nil))) (.cons (.fors (.nm 5) (.rng (.cons (.var 2) .nil)) (.cons (.app 3 (.dc (.var 4) (.gen .sum (.idx (.idv 3 (.neg (.cst (.int 1)))) (.var 6)) (.nm 6) (.frz (.idv 0 (.var 4))) .nop) (.nm 4) (.frz (.var 1)) .nop)) .nil)) (.cons (.ret (.var 3)) .nil)))
def nm_lengths_table : List Str := ["growths", "letters", "turns", "rows", "letter", "turn", "one"]
def ir_letter_after : Ss := (.cons (.exp (.cal 1 (.cons (.var 3) (.cons (.cst (.int 0)) (.cons (.glb 0) .nil))))) (.cons (.exp (.cal 1 (.cons (.var 4) (.cons (.cst (.int 0)) (.cons (.bin .pow (.cst (.int 10)) (.cst (.int 60))) .nil))))) (.cons (.asg 5 (.cal 8 (.cons (.var 0) (.cons (.var 1) (.cons (.var 3) .nil))))) (.cons (.asg 6 (.var 2)) (.cons (.fors (.nm 7) (.rng (.cons (.var 3) (.cons (.neg (.cst (.int 1))) (.cons (.neg (.cst (.int 1))) .nil)))) (.cons (.asg 8 (.cst .non)) (.cons (.fors (.nm 9) (.frz (.var 6)) (.cons (.ife (.cmp .isnone (.var 8) (.cst .non)) (.cons (.ife (.cmv .lt 4 (.idx (.idv 5 (.var 7)) (.var 9))) (.cons (.asg 8 (.var 9)) .nil) (.cons (.aug 4 .sub (.idx (.idv 5 (.var 7)) (.var 9))) .nil)) .nil) .nil) .nil)) (.cons (.ife (.cmp .isnone (.var 8) (.cst .non)) (.cons (.ret (.cst .non)) .nil) .nil) (.cons (.asg 6 (.idv 0 (.var 8))) (.cons (.ife (.cmv .eq 7 (.cst (.int 0))) (.cons (.ret (.var 8)) .nil) .nil) .nil)))))) (.cons (.ret (.cst .non)) .nil))))))
def nm_letter_after : List Str := ["growths", "letters", "word", "turns", "place", "rows", "row", "left", "here", "letter"]
def ir__law_dice : Ss := (.cons (.ife (.chn .lt .lt (.bin .sub (.cst (.int 0)) (.cst (.int 10))) (.var 0) (.cst (.int 10))) (.cons (.ret (.lst (.cons (.bi .abs (.cons (.var 0) .nil)) (.cons (.cst (.int 0)) (.cons (.cst (.int 2)) .nil))))) .nil) .nil) (.cons (.ret (.lst (.cons (.var 0) (.cons (.bin .add (.cst (.int 1)) (.bin .mod (.bi .int (.cons (.var 0) .nil)) (.cst (.int 1009)))) (.cons (.bi .int (.cons (.cmv .ge 0 (.bin .pow (.cst (.int 10)) (.cst (.int 18)))) .nil)) .nil))))) .nil))
def nm__law_dice : List Str := ["cell"]
def ir__law_roll : Ss := (.cons (.ife (.or (.cmp .eq (.idv 0 (.cst (.int 2))) (.cst (.int 2))) (.and (.cmp .eq (.idv 0 (.cst (.int 2))) (.cst (.int 1))) (.cmp .gt (.idv 0 (.cst (.int 0))) (.cst (.int 0))))) (.cons (.asg 2 (.bin .mod (.bi .int (.cons (.idv 0 (.cst (.int 0))) .nil)) (.var 1))) (.cons (.set 0 (.cst (.int 0)) (.bin .fdiv (.idv 0 (.cst (.int 0))) (.var 1))) (.cons (.ret (.var 2)) .nil))) .nil) (.cons (.set 0 (.cst (.int 2)) (.cst (.int 0))) (.cons (.set 0 (.cst (.int 0)) (.bin .mod (.bi .int (.cons (.bin .add (.bin .add (.bin .mul (.idv 0 (.cst (.int 0))) (.cst (.int 48271))) (.bin .mul (.idv 0 (.cst (.int 1))) (.cst (.int 69621)))) (.cst (.int 11))) .nil)) (.cst (.int 2147483647)))) (.cons (.set 0 (.cst (.int 1)) (.bin .add (.idv 0 (.cst (.int 1))) (.cst (.int 1)))) (.cons (.ret (.bin .mod (.bi .int (.cons (.bin .add (.bin .fdiv (.idv 0 (.cst (.int 0))) (.cst (.int 7))) (.idv 0 (.cst (.int 0)))) .nil)) (.var 1))) .nil)))))
def nm__law_roll : List Str := ["dice", "many", "found"]
def ir__law_word : Ss := (.cons (.ret (.joi (.cst (.str [])) (.lc (.idv 2 (.car 11 0 (.cons (.lenv 2) .nil))) (.nm 3) (.rng (.cons (.car 11 0 (.cons (.bin .add (.var 1) (.cst (.int 1))) .nil)) .nil)) .nop))) .nil)
def nm__law_word : List Str := ["dice", "most", "letters", "k"]
def ir_law : Ss := (.cons (.asg 2 (.dic (.cons (.cst (.str [97])) (.cons (.car 12 1 (.cons (.cst (.int 3)) (.cons (.cst (.str [97, 98])) .nil))) (.cons (.cst (.str [98])) (.cons (.car 12 1 (.cons (.cst (.int 3)) (.cons (.cst (.str [97, 98])) .nil))) .nil)))))) (.cons (.par [3, 4, 5] (.cons (.car 12 1 (.cons (.cst (.int 3)) (.cons (.cst (.str [97, 98])) .nil))) (.cons (.car 11 1 (.cons (.cst (.int 40)) .nil)) (.cons (.car 11 1 (.cons (.cst (.int 60)) .nil)) .nil)))) (.cons (.asg 6 (.cal 3 (.cons (.var 2) (.cons (.cst (.str [97, 98])) .nil)))) (.cons (.unp (.tu [(.nm 7), (.nm 8)]) (.tup (.cons (.cal 6 (.cons (.var 2) (.cons (.cst (.str [97, 98])) (.cons (.var 3) (.cons (.var 4) .nil))))) (.cons (.cal 6 (.cons (.var 2) (.cons (.cst (.str [97, 98])) (.cons (.var 3) (.cons (.bin .add (.var 4) (.var 5)) .nil))))) .nil)))) (.cons (.asg 9 (.cal 5 (.cons (.var 6) (.cons (.var 5) .nil)))) (.cons (.ife (.cmv .ne 8 (.bi .tuple (.cons (.lc (.bin .add (.bin .mul (.idv 10 (.cst (.int 0))) (.idv 7 (.cst (.int 0)))) (.bin .mul (.idv 10 (.cst (.int 1))) (.idv 7 (.cst (.int 1))))) (.nm 10) (.frz (.var 9)) .nop) .nil))) (.cons (.ret (.cst (.bl false))) .nil) .nil) (.cons (.ife (.cmp .ne (.cal 5 (.cons (.var 6) (.cons (.bin .add (.var 4) (.var 5)) .nil))) (.cal 4 (.cons (.cal 5 (.cons (.var 6) (.cons (.var 4) .nil))) (.cons (.var 9) .nil)))) (.cons (.ret (.cst (.bl false))) .nil) .nil) (.cons (.asg 11 (.cal 7 (.cons (.var 2) (.cons (.cst (.str [97, 98])) (.cons (.var 3) (.cons (.bin .add (.var 4) (.var 5)) .nil)))))) (.cons (.ife (.or (.cmv .ne 11 (.bi .sum (.cons (.var 8) .nil))) (.or (.cmp .ne (.cal 5 (.cons (.var 6) (.cons (.cst (.int 0)) .nil))) (.tup (.cons (.tup (.cons (.cst (.int 1)) (.cons (.cst (.int 0)) .nil))) (.cons (.tup (.cons (.cst (.int 0)) (.cons (.cst (.int 1)) .nil))) .nil)))) (.cmp .ne (.cal 5 (.cons (.var 6) (.cons (.cst (.int 1)) .nil))) (.var 6)))) (.cons (.ret (.cst (.bl false))) .nil) .nil) (.cons (.ife (.cmp .notnone (.cal 9 (.cons (.var 2) (.cons (.cst (.str [97, 98])) (.cons (.var 3) (.cons (.bin .add (.var 4) (.var 5)) (.cons (.var 11) .nil)))))) (.cst .non)) (.cons (.ret (.cst (.bl false))) .nil) .nil) (.cons (.ife (.cmv .gt 11 (.cst (.int 0))) (.cons (.asg 12 (.car 11 1 (.cons (.var 11) .nil))) (.cons (.ife (.cmp .notin (.cal 9 (.cons (.var 2) (.cons (.cst (.str [97, 98])) (.cons (.var 3) (.cons (.bin .add (.var 4) (.var 5)) (.cons (.var 12) .nil)))))) (.lst (.cons (.cst (.str [97])) (.cons (.cst (.str [98])) .nil)))) (.cons (.ret (.cst (.bl false))) .nil) .nil) (.cons (.asg 13 (.cal 9 (.cons (.var 2) (.cons (.cst (.str [97, 98])) (.cons (.var 3) (.cons (.bin .add (.var 4) (.var 5)) (.cons (.bin .sub (.var 11) (.cst (.int 1))) .nil))))))) (.cons (.asg 14 (.idx (.cal 8 (.cons (.var 2) (.cons (.cst (.str [97, 98])) (.cons (.bin .add (.var 4) (.var 5)) .nil)))) (.neg (.cst (.int 1))))) (.cons (.asg 15 (.joi (.cst (.str [])) (.lc (.var 16) (.nm 16) (.frz (.var 3)) (.cmp .gt (.idv 14 (.var 16)) (.cst (.int 0)))))) (.cons (.asg 15 (.sli (.var 15) (.bin .sub (.lenv 15) (.cst (.int 1))) .nop)) (.cons (.fors (.nm 17) (.rng (.cons (.bin .add (.var 4) (.var 5)) .nil)) (.cons (.asg 14 (.idx (.cal 8 (.cons (.var 2) (.cons (.cst (.str [97, 98])) (.cons (.bin .sub (.bin .sub (.bin .add (.var 4) (.var 5)) (.var 17)) (.cst (.int 1))) .nil)))) (.neg (.cst (.int 1))))) (.cons (.asg 18 (.lc (.var 16) (.nm 16) (.frz (.joi (.cst (.str [])) (.lc (.idv 2 (.var 7)) (.nm 7) (.frz (.var 15)) .nop))) (.cmp .gt (.idv 14 (.var 16)) (.cst (.int 0))))) (.cons (.asg 15 (.joi (.cst (.str [])) (.sli (.var 18) (.bin .sub (.lenv 18) (.cst (.int 1))) .nop))) .nil)))) (.cons (.ife (.cmv .ne 15 (.var 13)) (.cons (.ret (.cst (.bl false))) .nil) .nil) .nil)))))))) .nil) .nil)))))))))))
def ir_lawE : E := (.cst (.bl true))
def nm_law : List Str := ["script", "dice", "growths", "word", "first", "second", "table", "one", "both", "power", "row", "whole", "place", "last", "rows", "ends", "letter", "turn", "tail"]
def lawN : Int := 2
def dfs : List Df := [⟨"is_whole", nm_is_whole, 3, ir_is_whole, false⟩, ⟨"check_whole", nm_check_whole, 3, ir_check_whole, false⟩, ⟨"counts", nm_counts, 2, ir_counts, false⟩, ⟨"table_of", nm_table_of, 2, ir_table_of, false⟩, ⟨"times", nm_times, 2, ir_times, true⟩, ⟨"table_power", nm_table_power, 2, ir_table_power, false⟩, ⟨"counts_after", nm_counts_after, 4, ir_counts_after, true⟩, ⟨"length_after", nm_length_after, 4, ir_length_after, false⟩, ⟨"lengths_table", nm_lengths_table, 3, ir_lengths_table, true⟩, ⟨"letter_after", nm_letter_after, 5, ir_letter_after, false⟩, ⟨"_law_dice", nm__law_dice, 1, ir__law_dice, false⟩, ⟨"_law_roll", nm__law_roll, 2, ir__law_roll, false⟩, ⟨"_law_word", nm__law_word, 3, ir__law_word, false⟩]
def gi : GI := ⟨["is_whole", "check_whole", "counts", "table_of", "times", "table_power", "counts_after", "length_after", "lengths_table", "letter_after", "_law_dice", "_law_roll", "_law_word"], ["TURNS"], false⟩

theorem ok_is_whole : okSs (gi.on false) nm_is_whole (defScope (topS 5)) ir_is_whole (defBody (topS 5)) = true := by decide +kernel
theorem sc_is_whole : FnScope nm_is_whole ["thing", "low", "high"] (defScope (topS 5)) := ⟨rfl, rfl, rfl, by decide +kernel, rfl, by decide +kernel, by decide +kernel⟩
theorem ok_check_whole : okSs (gi.on false) nm_check_whole (defScope (topS 6)) ir_check_whole (defBody (topS 6)) = true := by decide +kernel
theorem sc_check_whole : FnScope nm_check_whole ["thing", "low", "high"] (defScope (topS 6)) := ⟨rfl, rfl, rfl, by decide +kernel, rfl, by decide +kernel, by decide +kernel⟩
theorem ok_counts : okSs (gi.on false) nm_counts (defScope (topS 9)) ir_counts (defBody (topS 9)) = true := by decide +kernel
theorem sc_counts : FnScope nm_counts ["letters", "word"] (defScope (topS 9)) := ⟨rfl, rfl, rfl, by decide +kernel, rfl, by decide +kernel, by decide +kernel⟩
theorem ok_table_of : okSs (gi.on false) nm_table_of (defScope (topS 10)) ir_table_of (defBody (topS 10)) = true := by decide +kernel
theorem sc_table_of : FnScope nm_table_of ["growths", "letters"] (defScope (topS 10)) := ⟨rfl, rfl, rfl, by decide +kernel, rfl, by decide +kernel, by decide +kernel⟩
theorem ok_times : okSs (gi.on true) nm_times (defScope (topS 11)) ir_times (defBody (topS 11)) = true := by decide +kernel
theorem sc_times : FnScope nm_times ["one", "other"] (defScope (topS 11)) := ⟨rfl, rfl, rfl, by decide +kernel, rfl, by decide +kernel, by decide +kernel⟩
theorem ok_table_power : okSs (gi.on false) nm_table_power (defScope (topS 12)) ir_table_power (defBody (topS 12)) = true := by decide +kernel
theorem sc_table_power : FnScope nm_table_power ["table", "many"] (defScope (topS 12)) := ⟨rfl, rfl, rfl, by decide +kernel, rfl, by decide +kernel, by decide +kernel⟩
theorem ok_counts_after : okSs (gi.on true) nm_counts_after (defScope (topS 13)) ir_counts_after (defBody (topS 13)) = true := by decide +kernel
theorem sc_counts_after : FnScope nm_counts_after ["growths", "letters", "word", "turns"] (defScope (topS 13)) := ⟨rfl, rfl, rfl, by decide +kernel, rfl, by decide +kernel, by decide +kernel⟩
theorem ok_length_after : okSs (gi.on false) nm_length_after (defScope (topS 14)) ir_length_after (defBody (topS 14)) = true := by decide +kernel
theorem sc_length_after : FnScope nm_length_after ["growths", "letters", "word", "turns"] (defScope (topS 14)) := ⟨rfl, rfl, rfl, by decide +kernel, rfl, by decide +kernel, by decide +kernel⟩
theorem ok_lengths_table : okSs (gi.on true) nm_lengths_table (defScope (topS 15)) ir_lengths_table (defBody (topS 15)) = true := by decide +kernel
theorem sc_lengths_table : FnScope nm_lengths_table ["growths", "letters", "turns"] (defScope (topS 15)) := ⟨rfl, rfl, rfl, by decide +kernel, rfl, by decide +kernel, by decide +kernel⟩
theorem ok_letter_after : okSs (gi.on false) nm_letter_after (defScope (topS 16)) ir_letter_after (defBody (topS 16)) = true := by decide +kernel
theorem sc_letter_after : FnScope nm_letter_after ["growths", "letters", "word", "turns", "place"] (defScope (topS 16)) := ⟨rfl, rfl, rfl, by decide +kernel, rfl, by decide +kernel, by decide +kernel⟩
theorem ok__law_dice : okSs (gi.on false) nm__law_dice (defScope (topS 18)) ir__law_dice (defBody (topS 18)) = true := by decide +kernel
theorem sc__law_dice : FnScope nm__law_dice ["cell"] (defScope (topS 18)) := ⟨rfl, rfl, rfl, by decide +kernel, rfl, by decide +kernel, by decide +kernel⟩
theorem ok__law_roll : okSs (gi.on false) nm__law_roll (defScope (topS 19)) ir__law_roll (defBody (topS 19)) = true := by decide +kernel
theorem sc__law_roll : FnScope nm__law_roll ["dice", "many"] (defScope (topS 19)) := ⟨rfl, rfl, rfl, by decide +kernel, rfl, by decide +kernel, by decide +kernel⟩
theorem ok__law_word : okSs (gi.on false) nm__law_word (defScope (topS 21)) ir__law_word (defBody (topS 21)) = true := by decide +kernel
theorem sc__law_word : FnScope nm__law_word ["dice", "most", "letters"] (defScope (topS 21)) := ⟨rfl, rfl, rfl, by decide +kernel, rfl, by decide +kernel, by decide +kernel⟩
theorem ok__law_rounds : okRound gi (defScope (topS 20)) 10 (defBody (topS 20)) = true := by decide +kernel
theorem sc__law_rounds : FnScope rndN ["script", "most"] (defScope (topS 20)) := ⟨rfl, rfl, rfl, by decide +kernel, rfl, by decide +kernel, by decide +kernel⟩
theorem ok_law : okLaw (gi.on false) nm_law (defScope (topS 22)) lawN ir_law ir_lawE (defBody (topS 22)) = true := by decide +kernel
theorem sc_law : FnScope nm_law ["script"] (defScope (topS 22)) := ⟨rfl, rfl, rfl, by decide +kernel, rfl, by decide +kernel, by decide +kernel⟩
end GwK

set_option Elab.async false
set_option linter.all false
set_option maxRecDepth 100000
set_option maxHeartbeats 1000000
/-! The small syntax, step by step: rules to run it with letters. Plain Lean. -/
namespace Gw
def Sl.isRef : Sl → Bool
  | .ref _ => true
  | _ => false
def sel {α : Type} : Bool → α → α → α
  | true, x, _ => x
  | false, _, y => y
def seqS (G : Glo) (ss : Ss) : Fl → Res Fl
  | .nx ρ' => runSs G ss ρ'
  | .rt d ρ' => .ok (.rt d ρ')
  | .bk ρ' => .ok (.bk ρ')
  | .ct ρ' => .ok (.ct ρ')
def seqW (C : Env → Res (Bool × Env)) (B : Env → Res Fl) (n : Nat) : Fl → Res Fl
  | .nx ρ' => loopW C B n ρ'
  | .ct ρ' => loopW C B n ρ'
  | .bk ρ' => .ok (.nx ρ')
  | .rt d ρ' => .ok (.rt d ρ')
section
variable {G : Glo} {ρ ρ1 ρ2 ρ3 : Env} {a b c e k : E} {es : Es} {x y z r : Rv} {d d1 d2 : D} {i j : Nat} {t : Bool}
theorem ev_cst : runE G (.cst d) ρ = .ok (.val d, ρ) := by simp only [runE]
theorem ev_var (h : ρ.at i = .val d) : runE G (.var i) ρ = .ok (.val d, ρ) := by simp only [runE, h]
theorem ev_own (h : ρ.at i = .own d) (h2 : ρ.set i (.val d) = ρ1) : runE G (.var i) ρ = .ok (.val d, ρ1) := by simp only [runE, h, h2]
theorem ev_glb (h : G.cst i = some d) : runE G (.glb i) ρ = .ok (.val d, ρ) := by simp only [runE, h, Res.of_some, Res.ok_bind]
theorem ev_bin {op : Bop} (h1 : runE G a ρ = .ok (x, ρ1)) (h2 : runE G b ρ1 = .ok (y, ρ2)) (h3 : dBin op x.d y.d = some r) : runE G (.bin op a b) ρ = .ok (r, ρ2) := by simp only [runE, h1, h2, h3, Res.of_some, Res.ok_bind]
theorem ev_neg (h1 : runE G a ρ = .ok (x, ρ1)) (h3 : dNeg x.d = some r) : runE G (.neg a) ρ = .ok (r, ρ1) := by simp only [runE, h1, h3, Res.of_some, Res.ok_bind]
theorem ev_cmp {op : Cop} (h1 : runE G a ρ = .ok (x, ρ1)) (h2 : runE G b ρ1 = .ok (y, ρ2)) (h3 : dCmp op x.d y.d = some t) : runE G (.cmp op a b) ρ = .ok (.val (.bl t), ρ2) := by simp only [runE, h1, h2, h3, Res.of_some, Res.ok_bind]
theorem ev_chn {op op' : Cop} {R : Res (Rv × Env)} (h1 : runE G a ρ = .ok (x, ρ1)) (h2 : runE G b ρ1 = .ok (y, ρ2)) (h3 : dCmp op x.d y.d = some t) (h4 : sel t ((runE G c ρ2).bind fun z => (Res.of (dCmp op' y.d z.1.d)).bind fun r' => .ok (.val (.bl r'), z.2)) (.ok (.val (.bl false), ρ2)) = R) : runE G (.chn op op' a b c) ρ = R := by
  simp only [runE, h1, h2, h3, Res.of_some, Res.ok_bind]
  rw [← h4]
  cases t <;> rfl
theorem ev_chn2 {op' : Cop} (h1 : runE G c ρ2 = .ok (z, ρ3)) (h2 : dCmp op' y.d z.d = some t) : ((runE G c ρ2).bind fun z => (Res.of (dCmp op' y.d z.1.d)).bind fun r' => .ok (.val (.bl r'), z.2) : Res (Rv × Env)) = .ok (.val (.bl t), ρ3) := by simp only [h1, h2, Res.of_some, Res.ok_bind]
theorem ev_and {R : Res (Rv × Env)} (h1 : runE G a ρ = .ok (x, ρ1)) (h2 : dTruth x.d = some t) (h3 : sel t (runE G b ρ1) (.ok (x, ρ1)) = R) : runE G (.and a b) ρ = R := by
  simp only [runE, h1, h2, Res.of_some, Res.ok_bind]
  rw [← h3]
  cases t <;> rfl
theorem ev_or {R : Res (Rv × Env)} (h1 : runE G a ρ = .ok (x, ρ1)) (h2 : dTruth x.d = some t) (h3 : sel t (.ok (x, ρ1)) (runE G b ρ1) = R) : runE G (.or a b) ρ = R := by
  simp only [runE, h1, h2, Res.of_some, Res.ok_bind]
  rw [← h3]
  cases t <;> rfl
theorem ev_not (h1 : runE G a ρ = .ok (x, ρ1)) (h2 : dTruth x.d = some t) : runE G (.not a) ρ = .ok (.val (.bl (!t)), ρ1) := by simp only [runE, h1, h2, Res.of_some, Res.ok_bind]
theorem ev_ite {R : Res (Rv × Env)} (h1 : runE G c ρ = .ok (x, ρ1)) (h2 : dTruth x.d = some t) (h3 : sel t (runE G a ρ1) (runE G b ρ1) = R) : runE G (.ite c a b) ρ = R := by
  simp only [runE, h1, h2, Res.of_some, Res.ok_bind]
  rw [← h3]
  cases t <;> rfl
/-- a test that is known -/
theorem m_t {α : Type} {X Y R : α} (h : t = true) (h2 : X = R) : sel t (X) (Y) = R := by subst h; exact h2
theorem m_f {α : Type} {X Y R : α} (h : t = false) (h2 : Y = R) : sel t (X) (Y) = R := by subst h; exact h2
theorem ev_tup {rs : List Rv} (h1 : runEs G es ρ = .ok (rs, ρ1)) (h2 : rs.length ≤ 16777216) {l : List D} (h3 : rs.map Rv.d = l) : runE G (.tup es) ρ = .ok (.val (.tup l), ρ1) := by
  subst h3
  simp only [runE, h1, Res.ok_bind, lineOk, decide_eq_true h2, if_true]
theorem ev_lst {rs : List Rv} (h1 : runEs G es ρ = .ok (rs, ρ1)) (h2 : rs.length ≤ 16777216) {l : List D} (h3 : rs.map Rv.d = l) : runE G (.lst es) ρ = .ok (.own (.lst l), ρ1) := by
  subst h3
  simp only [runE, h1, Res.ok_bind, lineOk, decide_eq_true h2, if_true]
theorem ev_idx (h1 : runE G a ρ = .ok (x, ρ1)) (h2 : runE G b ρ1 = .ok (y, ρ2)) (h3 : dIdx x.d y.d = some d) : runE G (.idx a b) ρ = .ok (.val d, ρ2) := by simp only [runE, h1, h2, h3, Res.of_some, Res.ok_bind]
theorem ev_idv (h0 : (ρ.at i).d? = some d1) (h1 : runE G b ρ = .ok (y, ρ1)) (h2 : (ρ1.at i).d? = some d2) (h3 : dIdx d2 y.d = some d) : runE G (.idv i b) ρ = .ok (.val d, ρ1) := by simp only [runE, h0, h1, h2, h3, Res.of_some, Res.ok_bind]
theorem ev_sli0 (h1 : runE G a ρ = .ok (x, ρ1)) (h2 : dCut x.d none none = some r) : runE G (.sli a .nop .nop) ρ = .ok (r, ρ1) := by simp only [runE, E.isNop, if_true, h1, h2, Res.of_some, Res.ok_bind]
theorem ev_sli1 {p : Option Int} (hb : b.isNop = false) (h1 : runE G a ρ = .ok (x, ρ1)) (h2 : runE G b ρ1 = .ok (y, ρ2)) (h3 : dPart y.d = some p) (h4 : dCut x.d p none = some r) : runE G (.sli a b .nop) ρ = .ok (r, ρ2) := by
  have hn : E.nop.isNop = true := rfl
  simp only [runE, hn, hb, Bool.false_eq_true, if_true, if_false, h1, h2, h3, h4, Res.of_some, Res.ok_bind]
theorem ev_sli2 {p : Option Int} (hb : b.isNop = false) (h1 : runE G a ρ = .ok (x, ρ1)) (h2 : runE G b ρ1 = .ok (y, ρ2)) (h3 : dPart y.d = some p) (h4 : dCut x.d none p = some r) : runE G (.sli a .nop b) ρ = .ok (r, ρ2) := by
  have hn : E.nop.isNop = true := rfl
  simp only [runE, hn, hb, Bool.false_eq_true, if_true, if_false, h1, h2, h3, h4, Res.of_some, Res.ok_bind]
theorem ev_sli3 {p q : Option Int} (hb : b.isNop = false) (hc : c.isNop = false) (h1 : runE G a ρ = .ok (x, ρ1)) (h2 : runE G b ρ1 = .ok (y, ρ2)) (h3 : dPart y.d = some p) (h5 : runE G c ρ2 = .ok (z, ρ3)) (h6 : dPart z.d = some q) (h4 : dCut x.d p q = some r) : runE G (.sli a b c) ρ = .ok (r, ρ3) := by
  simp only [runE, hb, hc, Bool.false_eq_true, if_false, h1, h2, h3, h4, h5, h6, Res.of_some, Res.ok_bind]
theorem ev_lenv (h1 : (ρ.at i).d? = some d) (h2 : dBi .len [d] = some r) : runE G (.lenv i) ρ = .ok (r, ρ) := by simp only [runE, h1, h2, Res.of_some, Res.ok_bind]
theorem ev_inv {op : Cop} (h1 : runE G a ρ = .ok (x, ρ1)) (h2 : (ρ1.at i).d? = some d) (h3 : dCmp op x.d d = some t) : runE G (.inv op a i) ρ = .ok (.val (.bl t), ρ1) := by simp only [runE, h1, h2, h3, Res.of_some, Res.ok_bind]
theorem ev_cmv {op : Cop} (h0 : (ρ.at i).d? = some d1) (h1 : runE G a ρ = .ok (x, ρ1)) (h2 : (ρ1.at i).d? = some d) (h3 : dCmp op d x.d = some t) : runE G (.cmv op i a) ρ = .ok (.val (.bl t), ρ1) := by simp only [runE, h0, h1, h2, h3, Res.of_some, Res.ok_bind]
theorem ev_bi {op : Bi} {rs : List Rv} (h1 : runEs G es ρ = .ok (rs, ρ1)) (h2 : dBi op (rs.map Rv.d) = some r) : runE G (.bi op es) ρ = .ok (r, ρ1) := by simp only [runE, h1, h2, Res.of_some, Res.ok_bind]
theorem ev_joi (h1 : runE G a ρ = .ok (x, ρ1)) (h2 : runE G b ρ1 = .ok (y, ρ2)) (h3 : joinD x.d y.d = some d) : runE G (.joi a b) ρ = .ok (.val d, ρ2) := by simp only [runE, h1, h2, h3, Res.of_some, Res.ok_bind]
theorem ev_cal {f : Nat} {rs : List Rv} {ps : List Sl} (h1 : runEs G es ρ = .ok (rs, ρ1)) (h2 : G.fn f (rs.map fun r => .val r.d) = .ok (r, ps)) : runE G (.cal f es) ρ = .ok (r, ρ1) := by simp only [runE, h1, h2, Res.ok_bind]
theorem ev_carO {f : Nat} {rs : List Rv} {ps : List Sl} (h0 : (ρ.at i).d? = some d) (h1 : runEs G es ρ = .ok (rs, ρ1)) (h2 : ρ1.at i = .own d1) (h3 : G.fn f (.ref d1 :: rs.map fun r => .val r.d) = .ok (r, .ref d2 :: ps)) (h4 : ρ1.set i (.own d2) = ρ2) : runE G (.car f i es) ρ = .ok (.val r.d, ρ2) := by simp only [runE, h0, h1, h2, h3, h4, Res.of_some, Res.ok_bind]
theorem ev_carR {f : Nat} {rs : List Rv} {ps : List Sl} (h0 : (ρ.at i).d? = some d) (h1 : runEs G es ρ = .ok (rs, ρ1)) (h2 : ρ1.at i = .ref d1) (h3 : G.fn f (.ref d1 :: rs.map fun r => .val r.d) = .ok (r, .ref d2 :: ps)) (h4 : ρ1.set i (.ref d2) = ρ2) : runE G (.car f i es) ρ = .ok (.val r.d, ρ2) := by simp only [runE, h0, h1, h2, h3, h4, Res.of_some, Res.ok_bind]
theorem es_nil : runEs G .nil ρ = .ok ([], ρ) := by simp only [runEs]
theorem es_cons {rs : List Rv} (h1 : runE G e ρ = .ok (x, ρ1)) (h2 : runEs G es ρ1 = .ok (rs, ρ2)) : runEs G (.cons e es) ρ = .ok (x :: rs, ρ2) := by simp only [runEs, h1, h2, Res.ok_bind]
/-! walks -/
theorem ri_frz {ds : List D} (h1 : runE G e ρ = .ok (x, ρ1)) (h2 : dItems x.d = some ds) : runI G (.frz e) ρ = .ok (ds, ρ1, none) := by simp only [runI, h1, h2, Res.of_some, Res.ok_bind]
theorem ri_rng {ds : List D} {rs : List Rv} (h1 : runEs G es ρ = .ok (rs, ρ1)) (h2 : dRange (rs.map Rv.d) = some ds) : runI G (.rng es) ρ = .ok (ds, ρ1, none) := by simp only [runI, h1, h2, Res.of_some, Res.ok_bind]
theorem ri_rev {ds : List D} (h1 : runE G e ρ = .ok (x, ρ1)) (h2 : x.d = .lst ds) : runI G (.rev e) ρ = .ok (ds.reverse, ρ1, none) := by simp only [runI, h1, h2, Res.of_some, Res.ok_bind]
/-! statements -/
theorem rs_asg (h1 : runE G e ρ = .ok (x, ρ1)) (h3 : ρ1.set (i + 1) x.sl = ρ2) : runS G (.asg (i + 1) e) ρ = .ok (.nx ρ2) := by
  simp only [runS, h1, Res.ok_bind, Env.put, Res.of_some, h3]
theorem rs_asg0 (h1 : runE G e ρ = .ok (x, ρ1)) (h2 : (ρ1.at 0).isRef = false) (h3 : ρ1.set 0 x.sl = ρ2) : runS G (.asg 0 e) ρ = .ok (.nx ρ2) := by
  simp only [runS, h1, Res.ok_bind, Env.put]
  cases q : ρ1.at 0 with
  | ref d => rw [q] at h2; cases h2
  | _ => simp only [Res.of_some, Res.ok_bind, h3]
theorem rs_par {is : List Nat} {rs : List Rv} (h1 : runEs G es ρ = .ok (rs, ρ1)) (h2 : setAll is rs ρ1 = some ρ2) : runS G (.par is es) ρ = .ok (.nx ρ2) := by simp only [runS, h1, h2, Res.of_some, Res.ok_bind]
theorem rs_unp {tt : T} (h1 : runE G e ρ = .ok (x, ρ1)) (h2 : setT tt x.d ρ1 = some ρ2) : runS G (.unp tt e) ρ = .ok (.nx ρ2) := by simp only [runS, h1, h2, Res.of_some, Res.ok_bind]
theorem rs_aug {op : Bop} (h0 : ρ.at i = .val d) (h1 : runE G e ρ = .ok (x, ρ1)) (h2 : dAug op d x.d = some d1) (h3 : ρ1.at i = .val d2) (h4 : ρ1.set i (.val d1) = ρ2) : runS G (.aug i op e) ρ = .ok (.nx ρ2) := by simp only [runS, h0, h1, h2, h3, h4, Res.of_some, Res.ok_bind]
theorem rs_setO {d0 : D} (h1 : runE G e ρ = .ok (x, ρ1)) (h0 : (ρ1.at i).d? = some d0) (h2 : runE G k ρ1 = .ok (y, ρ2)) (h3 : ρ2.at i = .own d1) (h4 : dSet d1 y.d x.d = some d2) (h5 : ρ2.set i (.own d2) = ρ3) : runS G (.set i k e) ρ = .ok (.nx ρ3) := by simp only [runS, h0, h1, h2, h3, h4, h5, Res.of_some, Res.ok_bind]
theorem rs_setR {d0 : D} (h1 : runE G e ρ = .ok (x, ρ1)) (h0 : (ρ1.at i).d? = some d0) (h2 : runE G k ρ1 = .ok (y, ρ2)) (h3 : ρ2.at i = .ref d1) (h4 : dSet d1 y.d x.d = some d2) (h5 : ρ2.set i (.ref d2) = ρ3) : runS G (.set i k e) ρ = .ok (.nx ρ3) := by simp only [runS, h0, h1, h2, h3, h4, h5, Res.of_some, Res.ok_bind]
theorem rs_exp (h1 : runE G e ρ = .ok (x, ρ1)) : runS G (.exp e) ρ = .ok (.nx ρ1) := by simp only [runS, h1, Res.ok_bind]
theorem rs_app {l l' : List D} (h0 : (ρ.at i).d? = some (.lst l)) (h1 : runE G e ρ = .ok (x, ρ1)) (h2 : ρ1.at i = .own (.lst l')) (h3 : l'.length + 1 ≤ 16777216) (h4 : ρ1.set i (.own (.lst (l' ++ [x.d]))) = ρ2) : runS G (.app i e) ρ = .ok (.nx ρ2) := by
  simp only [runS, h0, h1, h2, Res.ok_bind, lineOk, decide_eq_true h3, if_true, h4]
theorem rs_ret (h1 : runE G e ρ = .ok (x, ρ1)) : runS G (.ret e) ρ = .ok (.rt x ρ1) := by simp only [runS, h1, Res.ok_bind]
theorem rs_ife {A B : Ss} {R : Res Fl} (h1 : runE G c ρ = .ok (x, ρ1)) (h2 : dTruth x.d = some t) (h3 : sel t (runSs G A ρ1) (runSs G B ρ1) = R) : runS G (.ife c A B) ρ = R := by
  simp only [runS, h1, h2, Res.of_some, Res.ok_bind]
  rw [← h3]
  cases t <;> rfl
theorem seq_nx {ss : Ss} {R : Res Fl} (h : runSs G ss ρ = R) : seqS G ss (.nx ρ) = R := h
theorem seq_rt {ss : Ss} : seqS G ss (.rt x ρ) = .ok (.rt x ρ) := rfl
theorem seq_rtb {ss : Ss} {t t' : Bool} (h : t = t') : seqS G ss (.rt (.val (.bl t)) ρ) = .ok (.rt (.val (.bl t')) ρ) := by rw [h]; rfl
theorem ss_nil : runSs G .nil ρ = .ok (.nx ρ) := by simp only [runSs]
theorem ss_cons {s : S} {ss : Ss} {f1 : Fl} {R : Res Fl} (h1 : runS G s ρ = .ok f1) (h2 : seqS G ss f1 = R) : runSs G (.cons s ss) ρ = R := by
  simp only [runSs, h1, Res.ok_bind]
  rw [← h2]
  cases f1 <;> rfl
def Ss.app : Ss → Ss → Ss
  | .nil, b => b
  | .cons s a, b => .cons s (Ss.app a b)
theorem ss_app {R : Res Fl} : ∀ {A B : Ss} {ρ : Env}, runSs G A ρ = .ok (.nx ρ1) → runSs G B ρ1 = R → runSs G (A.app B) ρ = R
  | .nil, B, ρ, h1, h2 => by
    simp only [runSs] at h1
    cases h1
    exact h2
  | .cons s A, B, ρ, h1, h2 => by
    simp only [runSs] at h1
    obtain ⟨f, g1, h1⟩ := Res.bind_ok h1
    cases f with
    | nx ρ' => exact ss_cons g1 (ss_app (A := A) h1 h2)
    | _ => cases h1
/-- a law's loop by what holds between two turns -/
theorem loopL_inv {b : Ss} {i : Nat} (I : Env → Prop) (h : ∀ (c : Int) (ρ : Env), I ρ → ∃ ρ', runSs G b (ρ.set i (.own (diceD c))) = .ok (.nx ρ') ∧ I ρ') : ∀ (cs : List Int) (ρ : Env), I ρ → ∃ ρ', loopL G i b cs ρ = .ok ρ' ∧ I ρ'
  | [], ρ, hI => ⟨ρ, rfl, hI⟩
  | c :: cs, ρ, hI => by
    obtain ⟨ρ1, h1, h2⟩ := h c ρ hI
    obtain ⟨ρ2, h3, h4⟩ := loopL_inv I h cs ρ1 h2
    exact ⟨ρ2, by simp only [loopL, h1, Res.ok_bind, h3], h4⟩
theorem run_ret {n np : Nat} {B : Ss} {ps ps' : List Sl} (hl : ps.length = np) (h : runSs G B (ps ++ List.replicate (n - np) .no) = .ok (.rt x ρ)) (h2 : np ≤ ρ.length) (h3 : ρ.take np = ps') : runF G n np B ps = .ok (x, ps') := by
  unfold runF
  rw [if_pos hl, h]
  simp only [Res.ok_bind, h2, if_true, h3]
/-- any result: the parameters' slots behind are of no matter -/
theorem run_ret0 {n np : Nat} {B : Ss} {ps : List Sl} (hl : ps.length = np) (h : ∃ ρ : Env, runSs G B (ps ++ List.replicate (n - np) .no) = .ok (.rt x ρ) ∧ np ≤ ρ.length) : ∃ ps', runF G n np B ps = .ok (x, ps') := by
  obtain ⟨ρ, h, h2⟩ := h
  exact ⟨_, run_ret hl h h2 rfl⟩
/-! loops -/
/-- a state that a turn changes -/
theorem for_fold {α : Type} {body : D → Env → Res Fl} (enc : α → Env) (step : α → D → α) (Inv : α → Prop) : ∀ (ds : List D) (s : α), Inv s → (∀ x ∈ ds, ∀ s, Inv s → body x (enc s) = .ok (.nx (enc (step s x))) ∧ Inv (step s x)) → loopF body ds (enc s) = .ok (.nx (enc (ds.foldl step s))) ∧ Inv (ds.foldl step s)
  | [], s, hi, _ => ⟨by simp only [loopF, List.foldl_nil], hi⟩
  | x :: ds, s, hi, h => by
    obtain ⟨h1, h2⟩ := h x List.mem_cons_self s hi
    have q := for_fold enc step Inv ds (step s x) h2 fun y hy => h y (List.mem_cons_of_mem _ hy)
    simp only [loopF, h1, Res.ok_bind, List.foldl_cons]
    exact q
theorem rs_for {tt : T} {it : I} {B : Ss} {ds : List D} {R : Res Fl} (h1 : runI G it ρ = .ok (ds, ρ1, none)) (h2 : loopF (fun x ρ => (Res.of (setT tt x ρ)).bind fun ρ1 => runSs G B ρ1) ds ρ1 = R) : runS G (.fors tt it B) ρ = R := by simp only [runS, h1, Res.ok_bind, h2]
theorem body_set {tt : T} {B : Ss} {R : Res Fl} (h1 : setT tt d ρ = some ρ1) (h2 : runSs G B ρ1 = R) : ((Res.of (setT tt d ρ)).bind fun ρ1 => runSs G B ρ1) = R := by simp only [h1, Res.of_some, Res.ok_bind, h2]
theorem rs_whl {n : Nat} {B : Ss} {R : Res Fl} (h : loopW (fun ρ => (runE G c ρ).bind fun p => truR p.1 p.2) (fun ρ => runSs G B ρ) n ρ = R) : runS G (.whl n c B) ρ = R := by simp only [runS, h]
theorem truR_ok (h : dTruth x.d = some t) : truR x ρ = .ok (t, ρ) := by simp only [truR, h, Res.of_some, Res.ok_bind]
theorem whl_step {n : Nat} {C : Env → Res (Bool × Env)} {B : Env → Res Fl} {f1 : Fl} {R : Res Fl} (h1 : C ρ = .ok (true, ρ1)) (h2 : B ρ1 = .ok f1) (h3 : seqW C B n f1 = R) : loopW C B (n + 1) ρ = R := by
  simp only [loopW, h1, Res.ok_bind, if_true, h2]
  rw [← h3]
  cases f1 <;> rfl
theorem whl_end {n : Nat} {C : Env → Res (Bool × Env)} {B : Env → Res Fl} (h1 : C ρ = .ok (false, ρ1)) : loopW C B (n + 1) ρ = .ok (.nx ρ1) := by
  simp only [loopW, h1, Res.ok_bind, Bool.false_eq_true, if_false]
/-- list comprehensions whose turns change nothing -/
theorem loopC_pure {turn : D → Env → Res (List D × Env)} {f : D → List D} (ρ : Env) : ∀ (ds acc : List D), (∀ x ∈ ds, turn x ρ = .ok (f x, ρ)) → acc.length + (ds.flatMap f).length ≤ 16777216 → loopC turn ds acc ρ = .ok (acc ++ ds.flatMap f, ρ)
  | [], acc, _, _ => by simp only [loopC, List.flatMap_nil, List.append_nil]
  | x :: ds, acc, h, hl => by
    rw [List.flatMap_cons, List.length_append] at hl
    have q := loopC_pure ρ ds (acc ++ f x) (fun y hy => h y (List.mem_cons_of_mem _ hy)) (by rw [List.length_append]; omega)
    have hz : lineOk (acc.length + (f x).length) = true := by unfold lineOk; exact decide_eq_true (by omega)
    simp only [loopC, h x List.mem_cons_self, Res.ok_bind, hz, if_true, q, List.flatMap_cons, List.append_assoc]
theorem turnC_ok {set : D → Env → Option Env} {own : List Nat} {C : Env → Res (Bool × Env)} {F : Env → Res (List D × Env)} {ys : List D} (h1 : set d ρ = some ρ1) (h2 : C ρ1 = .ok (t, ρ2)) (h3 : sel t ((F ρ2).bind fun q => .ok (q.1, wipe q.2 own)) (.ok ([], wipe ρ2 own)) = .ok (ys, ρ3)) : turnC set own C F d ρ = .ok (ys, ρ3) := by
  unfold turnC
  simp only [h1, h2, Res.of_some, Res.ok_bind]
  cases t
  · exact h3
  · exact h3
theorem ev_lc {elt : E} {tt : T} {it : I} {ds : List D} {zs : List D} (h1 : runI G it ρ = .ok (ds, ρ1, none)) (h2 : wipable ρ1 tt.slots = true) (h3 : loopC (turnC (setT tt) tt.slots (fun ρ => if c.isNop then .ok (true, ρ) else (runE G c ρ).bind fun p => truR p.1 p.2) (fun ρ => (runE G elt ρ).bind fun q => .ok ([q.1.d], q.2))) ds [] (wipe ρ1 tt.slots) = .ok (zs, ρ2)) : runE G (.lc elt tt it c) ρ = .ok (.own (.lst zs), ρ2) := by
  simp only [runE, h1, Res.ok_bind, h2, if_true, h3, back]
/-- over one name that is no other's: elements f, test p -/
theorem ev_lc1 {elt : E} {v : Nat} {it : I} {ds : List D} (p : D → Bool) (f : D → D) (h1 : runI G it ρ = .ok (ds, ρ1, none)) (h2 : ρ1.at v = .no) (hv : v < ρ1.length) (hl : ds.length ≤ 16777216)
    (hp : ∀ x ∈ ds, (if c.isNop then (.ok (true, ρ1.set v (.val x)) : Res (Bool × Env)) else (runE G c (ρ1.set v (.val x))).bind fun p => truR p.1 p.2) = .ok (p x, ρ1.set v (.val x)))
    (hf : ∀ x ∈ ds, p x = true → ∃ r : Rv, r.d = f x ∧ runE G elt (ρ1.set v (.val x)) = .ok (r, ρ1.set v (.val x))) : runE G (.lc elt (.nm v) it c) ρ = .ok (.own (.lst ((ds.filter p).map f)), ρ1) := by
  have hw : wipe ρ1 [v] = ρ1 := by
    show ρ1.set v .no = ρ1
    apply List.ext_getElem?
    intro j
    by_cases e : v = j
    · subst e
      rw [List.getElem?_set_self hv, at_get hv, h2]
    · rw [List.getElem?_set_ne e]
  have hww : ∀ x, wipe (ρ1.set v (.val x)) [v] = ρ1 := fun x => by
    show (ρ1.set v (.val x)).set v .no = ρ1
    rw [List.set_set]
    exact hw
  refine ev_lc h1 ?_ ?_
  · simp only [T.slots, wipable, List.all_cons, List.all_nil, Bool.and_true, h2, decide_eq_true hv]
  · simp only [T.slots]
    rw [hw]
    have e : (ds.filter p).map f = ds.flatMap fun x => if p x then [f x] else [] := by
      clear hp hf hl h1
      induction ds with
      | nil => rfl
      | cons x ds ih =>
        rw [List.flatMap_cons, ← ih]
        cases hp : p x <;> simp [List.filter_cons, hp]
    rw [e, ← List.nil_append (ds.flatMap _)]
    refine loopC_pure ρ1 ds [] (fun x hx => ?_) ?_
    · have hs : setT (.nm v) x ρ1 = some (ρ1.set v (.val x)) := by cases v <;> simp only [setT, Env.put, h2]
      refine turnC_ok hs (hp x hx) ?_
      cases hpx : p x with
      | false => simp only [hww, Bool.false_eq_true, if_false, sel]
      | true =>
        obtain ⟨r, hr, hrun⟩ := hf x hx hpx
        simp only [hrun, Res.ok_bind, hww, hr, if_true, sel]
    · rw [← e, List.length_map]
      have := List.length_filter_le p ds
      simp; omega
end
end Gw

set_option Elab.async false
set_option linter.all false
set_option maxRecDepth 100000
set_option maxHeartbeats 1000000
/-! The dice: what the small syntax of the laws' helpers gives. Plain Lean. -/
namespace Gw
theorem dBin_add_str {a b : List Nat} (h : a.length + b.length ≤ 16777216) : dBin .add (.str a) (.str b) = some (.val (.str (a ++ b))) := by simp only [dBin, lineOk, decide_eq_true h, if_true]
theorem dBin_mod {a b : Int} (h : 0 < b) : dBin .mod (.int a) (.int b) = some (.val (.int (a % b))) := by simp only [dBin, decide_eq_true h, if_true]
theorem dBin_fdiv {a b : Int} (h : 0 < b) (h2 : b < 1073741824) : dBin .fdiv (.int a) (.int b) = some (.val (.int (a / b))) := by simp only [dBin, decide_eq_true h, decide_eq_true h2, Bool.true_or, Bool.and_self, if_true]
theorem dBin_fdivW {a b : Int} (h : 0 < b) (h2 : wideDiv b = true) : dBin .fdiv (.int a) (.int b) = some (.val (.int (a / b))) := by simp only [dBin, decide_eq_true h, h2, Bool.or_true, Bool.and_self, if_true]
theorem dBin_mulR {a b : Int} (h : small64 b = true) : dBin .mul (.int a) (.int b) = some (.val (.int (a * b))) := by simp only [dBin, h, Bool.or_true, Bool.true_or, if_true]
theorem dBin_mulW {a b : Int} (h : wideMul a b = true) : dBin .mul (.int a) (.int b) = some (.val (.int (a * b))) := by simp only [dBin, h, Bool.or_true, if_true]
theorem dBin_mulL {a b : Int} (h : small64 a = true) : dBin .mul (.int a) (.int b) = some (.val (.int (a * b))) := by simp only [dBin, h, Bool.true_or, if_true]
theorem dBi_len_str {a : List Nat} (h : a.length ≤ 16777216) : dBi .len [.str a] = some (.val (.int a.length)) := by simp only [dBi, lineOk, decide_eq_true h, if_true]
theorem dCut_str {a : List Nat} {lo hi : Option Int} (h : a.length ≤ 16777216) : dCut (.str a) lo hi = some (.val (.str (cut a lo hi))) := by simp only [dCut, lineOk, decide_eq_true h, if_true]
theorem dIdx_str {a : List Nat} {i : Int} {c : Nat} (h : a.length ≤ 16777216) (h2 : atI a i = some c) : dIdx (.str a) (.int i) = some (.str [c]) := by simp only [dIdx, lineOk, decide_eq_true h, if_true, h2, Option.map_some]
local macro_rules | `(tactic| walk_at "set") => `(tactic| first | (simp only [List.set_cons_succ, List.set_cons_zero]; done) | (simp only [List.set_cons_succ, List.set_cons_zero]; rfl) | rfl)
local macro_rules | `(tactic| walk_at "len") => `(tactic| first | omega | (simp only [List.length_cons, List.length_nil, List.length_append, List.length_map]; omega) | (simp; omega))
local macro_rules | `(tactic| walk_at "cond") => `(tactic| first | rfl | assumption | (simp only [Rv.d, D.eqb, decide_eq_true_eq, decide_eq_false_iff_not, beq_iff_eq, bne_iff_ne, Bool.not_eq_true', Bool.not_eq_false', Bool.and_eq_true, Bool.or_eq_true, beq_eq_false_iff_ne]; first | assumption | omega) | (simp [Rv.d, D.eqb, *]; done))
local macro_rules | `(tactic| walk_at "leaf") => `(tactic| first | rfl | (refine dBin_add_str ?_; walk_at "len") | (refine dBin_mod ?_; omega) | (refine dBin_fdiv ?_ ?_ <;> omega) | (refine dBin_fdivW ?_ ?_ <;> first | omega | assumption) | (refine dBin_mulR ?_; decide) | (refine dBin_mulL ?_; decide) | (refine dBi_len_str ?_; walk_at "len") | (refine dCut_str ?_; walk_at "len") | (show _ ≤ 16777216; walk_at "len"))
local macro_rules | `(tactic| walk_at "call") => `(tactic| first | with_reducible assumption | (simp only [List.map_cons, List.map_nil, Rv.d]; with_reducible assumption))
local macro_rules | `(tactic| walk_at "ev") => `(tactic| repeat' (first
  | with_reducible exact ev_cst | with_reducible exact es_nil | with_reducible exact ss_nil | ((with_reducible apply ev_var); rfl) | ((with_reducible apply ev_own); rfl; walk_at "set")
  | with_reducible apply es_cons | with_reducible apply ss_cons | with_reducible exact seq_rt | ((with_reducible refine seq_rtb ?h); (case h => walk_at "cond")) | with_reducible apply seq_nx
  | ((with_reducible refine m_t ?h ?_); (case h => walk_at "cond")) | ((with_reducible refine m_f ?h ?_); (case h => walk_at "cond"))
  | with_reducible apply ev_bin | with_reducible apply ev_cmp | with_reducible apply ev_cmv | with_reducible apply ev_neg | with_reducible apply ev_chn | with_reducible apply ev_chn2 | with_reducible apply ev_and | with_reducible apply ev_or | with_reducible apply ev_not | with_reducible apply ev_ite | with_reducible apply ev_tup | with_reducible apply ev_lst | with_reducible apply ev_idv | with_reducible apply ev_idx | with_reducible apply ev_sli0 | with_reducible apply ev_sli1 | with_reducible apply ev_sli2 | with_reducible apply ev_sli3 | with_reducible apply ev_lenv | with_reducible apply ev_inv | with_reducible apply ev_bi | with_reducible apply ev_joi | with_reducible apply rs_asg | with_reducible apply rs_asg0 | with_reducible apply rs_ife | with_reducible apply rs_ret | with_reducible apply rs_exp | with_reducible apply rs_aug
  | with_reducible apply rs_setR | with_reducible apply rs_setO | with_reducible apply ev_cal | with_reducible apply rs_unp | with_reducible apply rs_par | with_reducible apply rs_app
  | walk_at "call"
  | walk_at "leaf" | walk_at "set"))
def diceB : Ss := (.cons (.ife (.chn .lt .lt (.bin .sub (.cst (.int 0)) (.cst (.int 10))) (.var 0) (.cst (.int 10))) (.cons (.ret (.lst (.cons (.bi .abs (.cons (.var 0) .nil)) (.cons (.cst (.int 0)) (.cons (.cst (.int 2)) .nil))))) .nil) .nil) (.cons (.ret (.lst (.cons (.var 0) (.cons (.bin .add (.cst (.int 1)) (.bin .mod (.bi .int (.cons (.var 0) .nil)) (.cst (.int 1009)))) (.cons (.bi .int (.cons (.cmv .ge 0 (.bin .pow (.cst (.int 10)) (.cst (.int 18)))) .nil)) .nil))))) .nil))
def rollB : Ss := (.cons (.ife (.or (.cmp .eq (.idv 0 (.cst (.int 2))) (.cst (.int 2))) (.and (.cmp .eq (.idv 0 (.cst (.int 2))) (.cst (.int 1))) (.cmp .gt (.idv 0 (.cst (.int 0))) (.cst (.int 0))))) (.cons (.asg 2 (.bin .mod (.bi .int (.cons (.idv 0 (.cst (.int 0))) .nil)) (.var 1))) (.cons (.set 0 (.cst (.int 0)) (.bin .fdiv (.idv 0 (.cst (.int 0))) (.var 1))) (.cons (.ret (.var 2)) .nil))) .nil) (.cons (.set 0 (.cst (.int 2)) (.cst (.int 0))) (.cons (.set 0 (.cst (.int 0)) (.bin .mod (.bi .int (.cons (.bin .add (.bin .add (.bin .mul (.idv 0 (.cst (.int 0))) (.cst (.int 48271))) (.bin .mul (.idv 0 (.cst (.int 1))) (.cst (.int 69621)))) (.cst (.int 11))) .nil)) (.cst (.int 2147483647)))) (.cons (.set 0 (.cst (.int 1)) (.bin .add (.idv 0 (.cst (.int 1))) (.cst (.int 1)))) (.cons (.ret (.bin .mod (.bi .int (.cons (.bin .add (.bin .fdiv (.idv 0 (.cst (.int 0))) (.cst (.int 7))) (.idv 0 (.cst (.int 0)))) .nil)) (.var 1))) .nil)))))
theorem run_dice (G : Glo) (c : Int) : runF G 1 1 diceB [.val (.int c)] = .ok (.own (diceD c), [.val (.int c)]) := by
  refine run_ret (ρ := [.val (.int c)]) rfl ?_ (Nat.le_refl _) rfl
  show runSs G diceB [.val (.int c)] = _
  unfold diceB
  by_cases h : -10 < c ∧ c < 10
  · obtain ⟨h1, h2⟩ := h
    have e : diceD c = .lst [.int (if c < 0 then -c else c), .int 0, .int 2] := by simp [diceD, diceL, h1, h2]
    rw [e]
    walk_at "ev"
  · have e : diceD c = .lst [.int c, .int (1 + c % 1009), .int (if decide (10 ^ Int.toNat 18 ≤ c) = true then 1 else 0)] := by simp [diceD, diceL, h]
    rw [e]
    by_cases h1 : -10 < c
    · have h2 : ¬ c < 10 := fun z => h ⟨h1, z⟩
      walk_at "ev"
    · walk_at "ev"
/-- three ints -/
def IsDice (d : D) : Prop := ∃ a b k : Int, d = .lst [.int a, .int b, .int k]
theorem dice_is (c : Int) : IsDice (diceD c) := by
  unfold diceD diceL
  split
  · exact ⟨_, _, _, rfl⟩
  · exact ⟨_, _, _, rfl⟩
theorem run_rollW (G : Glo) {d : D} {m : Int} (hd : IsDice d) (h0 : 0 < m) (h1 : wideDiv m = true) : ∃ (r : Int) (d' : D), IsDice d' ∧ 0 ≤ r ∧ r < m ∧ runF G 3 2 rollB [.ref d, .val (.int m)] = .ok (.val (.int r), [.ref d', .val (.int m)]) := by
  obtain ⟨a, b, k, rfl⟩ := hd
  by_cases hc : k = 2 ∨ k = 1 ∧ 0 < a
  · refine ⟨a % m, .lst [.int (a / m), .int b, .int k], ⟨_, _, _, rfl⟩, Int.emod_nonneg _ (by omega), Int.emod_lt_of_pos _ h0, ?_⟩
    refine run_ret (ρ := [.ref (.lst [.int (a / m), .int b, .int k]), .val (.int m), .val (.int (a % m))]) rfl ?_ (by simp) rfl
    show runSs G rollB [.ref (.lst [.int a, .int b, .int k]), .val (.int m), .no] = _
    unfold rollB
    by_cases hk : k = 2
    · walk_at "ev"
    · have hk1 : k = 1 := by omega
      have ha : 0 < a := by omega
      walk_at "ev"
  · refine ⟨((a * 48271 + b * 69621 + 11) % 2147483647 / 7 + (a * 48271 + b * 69621 + 11) % 2147483647) % m, .lst [.int ((a * 48271 + b * 69621 + 11) % 2147483647), .int (b + 1), .int 0], ⟨_, _, _, rfl⟩, Int.emod_nonneg _ (by omega), Int.emod_lt_of_pos _ h0, ?_⟩
    refine run_ret (ρ := [.ref (.lst [.int ((a * 48271 + b * 69621 + 11) % 2147483647), .int (b + 1), .int 0]), .val (.int m), .no]) rfl ?_ (by simp) rfl
    show runSs G rollB [.ref (.lst [.int a, .int b, .int k]), .val (.int m), .no] = _
    unfold rollB
    have hk : ¬ k = 2 := fun z => hc (.inl z)
    by_cases hk1 : k = 1
    · have ha : ¬ 0 < a := fun z => hc (.inr ⟨hk1, z⟩)
      walk_at "ev"
    · walk_at "ev"
theorem wideDiv_small {m : Int} (h0 : 0 < m) (h1 : m < 1073741824) : wideDiv m = true := by
  unfold wideDiv
  refine decide_eq_true ?_
  have h2 : m.natAbs < 2 ^ 30 := by omega
  have : m.natAbs.log2 < 30 := (Nat.log2_lt (by omega)).mpr h2
  omega
theorem run_roll (G : Glo) {d : D} {m : Int} (hd : IsDice d) (h0 : 0 < m) (h1 : m < 1073741824) : ∃ (r : Int) (d' : D), IsDice d' ∧ 0 ≤ r ∧ r < m ∧ runF G 3 2 rollB [.ref d, .val (.int m)] = .ok (.val (.int r), [.ref d', .val (.int m)]) := run_rollW G hd h0 (wideDiv_small h0 h1)
def wordB (R : Nat) : Ss := (.cons (.ret (.joi (.cst (.str [])) (.lc (.idv 2 (.car R 0 (.cons (.lenv 2) .nil))) (.nm 3) (.rng (.cons (.car R 0 (.cons (.bin .add (.var 1) (.cst (.int 1))) .nil)) .nil)) .nop))) .nil)
theorem atI_nat {α : Type} {xs : List α} {r : Int} (h0 : 0 ≤ r) (h1 : r < xs.length) : ∃ c, atI xs r = some c ∧ c ∈ xs := by
  have hj : r.toNat < xs.length := by omega
  refine ⟨xs[r.toNat], ?_, List.getElem_mem hj⟩
  unfold atI ixN
  rw [if_pos h0, if_pos h1, Option.bind_some, List.getElem?_eq_getElem hj]
theorem strs_signs : ∀ cs : List Nat, dStrs (cs.map fun c => D.str [c]) = some (cs.map fun c => [c])
  | [] => rfl
  | c :: cs => by simp only [List.map_cons, dStrs, strs_signs cs, Option.map_some]
theorem flat_signs : ∀ cs : List Nat, (cs.map fun c => [c]).flatten = cs
  | [] => rfl
  | c :: cs => by simp only [List.map_cons, List.flatten_cons, flat_signs cs, List.singleton_append]
theorem sum_signs : ∀ cs : List Nat, sumLen (cs.map fun c => [c]) = cs.length
  | [] => rfl
  | c :: cs => by simp only [List.map_cons, sumLen, sum_signs cs, List.length_cons, List.length_nil]; omega
/-- the dice's letters, one a turn -/
theorem word_loop {G G' : Glo} {R : Nat} (hR : G.fn R = runF G' 3 2 rollB) {m : Int} {ls : List Nat} (h1 : 0 < ls.length) (h2 : ls.length < 1000) : ∀ (ds acc : List D) (d : D), IsDice d → acc.length + ds.length ≤ 16777216 → ∃ (cs : List Nat) (d' : D), IsDice d' ∧ cs.length = ds.length ∧ (∀ c ∈ cs, c ∈ ls) ∧
    loopC (turnC (setT (.nm 3)) [3] (fun ρ => if E.nop.isNop then .ok (true, ρ) else (runE G .nop ρ).bind fun p => truR p.1 p.2) (fun ρ => (runE G (.idv 2 (.car R 0 (.cons (.lenv 2) .nil))) ρ).bind fun q => .ok ([q.1.d], q.2))) ds acc [.ref d, .val (.int m), .val (.str ls), .no] = .ok (acc ++ cs.map fun c => D.str [c], [.ref d', .val (.int m), .val (.str ls), .no])
  | [], acc, d, hd, _ => ⟨[], d, hd, rfl, (fun _ h => by cases h), by simp only [loopC, List.map_nil, List.append_nil]⟩
  | x :: ds, acc, d, hd, hl => by
    obtain ⟨r, d1, hd1, r0, r1, hr⟩ := run_roll G' hd (m := ls.length) (by omega) (by omega)
    obtain ⟨c, hc, hm⟩ := atI_nat (xs := ls) r0 r1
    obtain ⟨cs, d2, hd2, hlen, hall, hrun⟩ := word_loop hR h1 h2 (m := m) ds (acc ++ [.str [c]]) d1 hd1 (by simp at hl ⊢; omega)
    refine ⟨c :: cs, d2, hd2, by simp [hlen], fun z hz => ?_, ?_⟩
    · rcases List.mem_cons.mp hz with rfl | hz
      · exact hm
      · exact hall z hz
    · have e1 : runE G (.idv 2 (.car R 0 (.cons (.lenv 2) .nil))) [.ref d, .val (.int m), .val (.str ls), .val x] = .ok (.val (.str [c]), [.ref d1, .val (.int m), .val (.str ls), .val x]) := by
        refine ev_idv (d1 := .str ls) (d2 := .str ls) (y := .val (.int r)) rfl ?_ rfl (dIdx_str (by omega) hc)
        refine ev_carR (d := d) (d1 := d) (d2 := d1) (r := .val (.int r)) (rs := [.val (.int ls.length)]) (ps := [.val (.int ls.length)]) (ρ1 := [.ref d, .val (.int m), .val (.str ls), .val x]) rfl ?_ rfl ?_ rfl
        · exact es_cons (ev_lenv rfl (dBi_len_str (by omega))) es_nil
        · rw [hR]; exact hr
      have e2 : turnC (setT (.nm 3)) [3] (fun ρ => if E.nop.isNop then .ok (true, ρ) else (runE G .nop ρ).bind fun p => truR p.1 p.2) (fun ρ => (runE G (.idv 2 (.car R 0 (.cons (.lenv 2) .nil))) ρ).bind fun q => .ok ([q.1.d], q.2)) x [.ref d, .val (.int m), .val (.str ls), .no] = .ok ([.str [c]], [.ref d1, .val (.int m), .val (.str ls), .no]) := by
        refine turnC_ok (t := true) (ρ1 := [.ref d, .val (.int m), .val (.str ls), .val x]) (ρ2 := [.ref d, .val (.int m), .val (.str ls), .val x]) rfl rfl ?_
        show (((runE G (.idv 2 (.car R 0 (.cons (.lenv 2) .nil))) [.ref d, .val (.int m), .val (.str ls), .val x]).bind fun q => .ok ([q.1.d], q.2)).bind fun q => .ok (q.1, wipe q.2 [3])) = _
        rw [e1]; rfl
      have hz : lineOk (acc.length + 1) = true := by unfold lineOk; exact decide_eq_true (by simp at hl; omega)
      simp only [loopC, e2, Res.ok_bind, List.length_cons, List.length_nil, Nat.zero_add, hz, if_true, hrun, List.map_cons, List.append_assoc, List.singleton_append]
theorem run_word {G G' : Glo} {R : Nat} (hR : G.fn R = runF G' 3 2 rollB) {d : D} (hd : IsDice d) {m : Int} {ls : List Nat} (h0 : 0 ≤ m) (hm : m < 1000) (h1 : 0 < ls.length) (h2 : ls.length < 1000) : ∃ (w : List Nat) (d' : D), IsDice d' ∧ (w.length : Int) ≤ m ∧ (∀ c ∈ w, c ∈ ls) ∧
    runF G 4 3 (wordB R) [.ref d, .val (.int m), .val (.str ls)] = .ok (.val (.str w), [.ref d', .val (.int m), .val (.str ls)]) := by
  obtain ⟨r, d1, hd1, r0, r1, hr⟩ := run_roll G' hd (m := m + 1) (by omega) (by omega)
  obtain ⟨cs, d2, hd2, hlen, hall, hrun⟩ := word_loop hR h1 h2 (m := m) (ranged 0 1 r.toNat) [] d1 hd1 (by simp [ranged]; omega)
  have hl : (ranged 0 1 r.toNat).length = r.toNat := by simp [ranged]
  refine ⟨cs, d2, hd2, by rw [hlen, hl]; omega, hall, ?_⟩
  refine run_ret (ρ := [.ref d2, .val (.int m), .val (.str ls), .no]) rfl ?_ (by simp) rfl
  show runSs G (wordB R) [.ref d, .val (.int m), .val (.str ls), .no] = _
  refine ss_cons (rs_ret (ev_joi ev_cst (ev_lc (ds := ranged 0 1 r.toNat) (ρ1 := [.ref d1, .val (.int m), .val (.str ls), .no]) (ri_rng (rs := [.val (.int r)]) (es_cons ?_ es_nil) ?_) rfl hrun) ?_)) seq_rt
  · refine ev_carR (d := d) (d1 := d) (d2 := d1) (r := .val (.int r)) (rs := [.val (.int (m + 1))]) (ps := [.val (.int (m + 1))]) (ρ1 := [.ref d, .val (.int m), .val (.str ls), .no]) rfl ?_ rfl ?_ rfl
    · exact es_cons (ev_bin (ev_var rfl) ev_cst rfl) es_nil
    · rw [hR]; exact hr
  · show dRange [.int r] = _
    have : inR r = true := by
      unfold inR
      rw [Bool.and_eq_true]
      exact ⟨decide_eq_true (by omega), decide_eq_true (by omega)⟩
    simp only [dRange, this, if_true]
  · show joinD (.str []) (.lst ([] ++ cs.map fun c => D.str [c])) = some (.str cs)
    rw [List.nil_append]
    have hz : lineOk cs.length = true := by unfold lineOk; exact decide_eq_true (by omega)
    simp only [joinD, strs_signs, sum_signs, hz, if_true, flat_signs]
end Gw

set_option Elab.async false
set_option linter.all false
set_option maxRecDepth 100000
set_option maxHeartbeats 1000000
/-! The small syntax with letters: comprehensions and generators whose turns change nothing. Plain Lean. -/
namespace Gw
section
variable {G : Glo} {ρ ρ1 ρ2 ρ3 : Env} {a b c e k : E} {es : Es} {x y z r : Rv} {d d1 d2 : D} {i j : Nat} {t : Bool}
/-- the test of a clause -/
abbrev condE (G : Glo) (c : E) (ρ : Env) : Res (Bool × Env) := runC G c ρ
theorem cond_nop : condE G .nop ρ = .ok (true, ρ) := rfl
theorem cond_ok (hc : c.isNop = false) (h1 : runE G c ρ = .ok (x, ρ1)) (h2 : dTruth x.d = some t) : condE G c ρ = .ok (t, ρ1) := by
  unfold condE runC
  rw [hc]
  simp only [Bool.false_eq_true, if_false, h1, Res.ok_bind, truR, h2, Res.of_some]
theorem wipe_free {v : Nat} (h2 : ρ1.at v = .no) (hv : v < ρ1.length) : wipe ρ1 [v] = ρ1 := by
  show ρ1.set v .no = ρ1
  apply List.ext_getElem?
  intro j
  by_cases e : v = j
  · subst e
    rw [List.getElem?_set_self hv, at_get hv, h2]
  · rw [List.getElem?_set_ne e]
theorem turn_pure {elt : E} {v : Nat} (p : D → Bool) (f : D → D) {x : D} (h2 : ρ1.at v = .no) (hv : v < ρ1.length)
    (hp : condE G c (ρ1.set v (.val x)) = .ok (p x, ρ1.set v (.val x)))
    (hf : p x = true → ∃ r : Rv, r.d = f x ∧ runE G elt (ρ1.set v (.val x)) = .ok (r, ρ1.set v (.val x))) :
    turnC (setT (.nm v)) [v] (runC G c) (runL G elt) x ρ1 = .ok (if p x then [f x] else [], ρ1) := by
  have hww : wipe (ρ1.set v (.val x)) [v] = ρ1 := by
    show (ρ1.set v (.val x)).set v .no = ρ1
    rw [List.set_set]
    exact wipe_free h2 hv
  have hs : setT (.nm v) x ρ1 = some (ρ1.set v (.val x)) := by cases v <;> simp only [setT, Env.put, h2]
  refine turnC_ok hs hp ?_
  cases hpx : p x with
  | false => simp only [hww, Bool.false_eq_true, if_false, sel]
  | true =>
    obtain ⟨r, hr, hrun⟩ := hf hpx
    simp only [runL, hrun, Res.ok_bind, hww, hr, if_true, sel]
theorem loopB_pure {turn : D → Env → Res (List D × Env)} {stop : Bool} {p f : D → Bool} (ρ : Env) : ∀ ds : List D, (∀ x ∈ ds, turn x ρ = .ok (if p x then [.bl (f x)] else [], ρ)) → loopB stop turn ds ρ = .ok (if (ds.any fun x => p x && (f x == stop)) then stop else !stop, ρ)
  | [], _ => rfl
  | x :: ds, h => by
    have q := loopB_pure (stop := stop) (p := p) (f := f) ρ ds fun y hy => h y (List.mem_cons_of_mem _ hy)
    have hx := h x List.mem_cons_self
    rw [List.any_cons]
    by_cases hp : p x = true
    · rw [if_pos hp] at hx
      simp only [loopB, hx, Res.ok_bind, hp, Bool.true_and]
      by_cases hf : (f x == stop) = true
      · simp only [hf, if_true, Bool.true_or]
      · simp only [hf, if_false, Bool.false_or, Bool.false_eq_true]; exact q
    · rw [if_neg hp] at hx
      have hp : p x = false := by simpa using hp
      simp only [loopB, hx, Res.ok_bind, hp, Bool.false_and, Bool.false_or]
      exact q
theorem wipable1 {v : Nat} (h2 : ρ1.at v = .no) (hv : v < ρ1.length) : wipable ρ1 [v] = true := by
  simp only [wipable, List.all_cons, List.all_nil, Bool.and_true, h2, decide_eq_true hv]
theorem ev_genB {gk : Gk} {stop : Bool} (hg : (gk = .all ∧ stop = false) ∨ (gk = .any ∧ stop = true)) {elt : E} {v : Nat} {it : I} {ds : List D} (p f : D → Bool) (h1 : runI G it ρ = .ok (ds, ρ1, none)) (h2 : ρ1.at v = .no) (hv : v < ρ1.length)
    (hp : ∀ x ∈ ds, condE G c (ρ1.set v (.val x)) = .ok (p x, ρ1.set v (.val x)))
    (hf : ∀ x ∈ ds, p x = true → runE G elt (ρ1.set v (.val x)) = .ok (.val (.bl (f x)), ρ1.set v (.val x))) {res : Bool} (hr : (if (ds.any fun x => p x && (f x == stop)) then stop else !stop) = res) : runE G (.gen gk elt (.nm v) it c) ρ = .ok (.val (.bl res), ρ1) := by
  have hw := wipe_free h2 hv
  have q := loopB_pure (stop := stop) (turn := turnC (setT (.nm v)) [v] (runC G c) (runL G elt)) (p := p) (f := f) ρ1 ds fun x hx => turn_pure p (fun x => .bl (f x)) h2 hv (hp x hx) fun hpx => ⟨_, rfl, hf x hx hpx⟩
  rw [hr] at q
  rcases hg with ⟨rfl, rfl⟩ | ⟨rfl, rfl⟩
  · rw [runE_gen (by intro z; cases z)]
    simp only [h1, Res.ok_bind, T.slots, wipable1 h2 hv, if_true, hw, Gk.stop, q, back]
  · rw [runE_gen (by intro z; cases z)]
    simp only [h1, Res.ok_bind, T.slots, wipable1 h2 hv, if_true, hw, Gk.stop, q, back]
theorem filter_tt (ds : List D) : (ds.filter fun _ => true) = ds := by simp
theorem any_not_all (p f : D → Bool) (ds : List D) : (if (ds.any fun x => p x && (f x == false)) then false else !false) = (ds.filter p).all f := by
  induction ds with
  | nil => rfl
  | cons x ds ih =>
    rw [List.any_cons, List.filter_cons]
    cases hp : p x with
    | false => simpa using ih
    | true =>
      simp only [Bool.true_and, if_true, List.all_cons]
      cases hf : f x with
      | false => simp
      | true => simpa using ih
theorem any_is (p f : D → Bool) (ds : List D) : (if (ds.any fun x => p x && (f x == true)) then true else !true) = (ds.filter p).any f := by
  induction ds with
  | nil => rfl
  | cons x ds ih =>
    rw [List.any_cons, List.filter_cons]
    cases hp : p x with
    | false => simpa using ih
    | true =>
      simp only [Bool.true_and, if_true, List.any_cons]
      cases hf : f x with
      | false => simpa using ih
      | true => simp
/-- all(f(x) for x in ds), no test -/
theorem ev_gall {elt : E} {v : Nat} {it : I} {ds : List D} (f : D → Bool) (h1 : runI G it ρ = .ok (ds, ρ1, none)) (h2 : ρ1.at v = .no) (hv : v < ρ1.length)
    (hf : ∀ x ∈ ds, runE G elt (ρ1.set v (.val x)) = .ok (.val (.bl (f x)), ρ1.set v (.val x))) {res : Bool} (hr : ds.all f = res) : runE G (.gen .all elt (.nm v) it .nop) ρ = .ok (.val (.bl res), ρ1) :=
  ev_genB (.inl ⟨rfl, rfl⟩) (fun _ => true) f h1 h2 hv (fun _ _ => rfl) (fun x hx _ => hf x hx) (by rw [any_not_all, ← hr]; rw [filter_tt])
theorem ev_gany {elt : E} {v : Nat} {it : I} {ds : List D} (f : D → Bool) (h1 : runI G it ρ = .ok (ds, ρ1, none)) (h2 : ρ1.at v = .no) (hv : v < ρ1.length)
    (hf : ∀ x ∈ ds, runE G elt (ρ1.set v (.val x)) = .ok (.val (.bl (f x)), ρ1.set v (.val x))) {res : Bool} (hr : ds.any f = res) : runE G (.gen .any elt (.nm v) it .nop) ρ = .ok (.val (.bl res), ρ1) :=
  ev_genB (.inr ⟨rfl, rfl⟩) (fun _ => true) f h1 h2 hv (fun _ _ => rfl) (fun x hx _ => hf x hx) (by rw [any_is, ← hr]; rw [filter_tt])
theorem dInts_map (f : D → Int) : ∀ ds : List D, dInts (ds.map fun x => D.int (f x)) = some (ds.map f)
  | [] => rfl
  | x :: ds => by simp only [List.map_cons, dInts, dInts_map f ds, Option.map_some]
/-- sum(f(x) for x in ds if p(x)) -/
theorem ev_gsum {elt : E} {v : Nat} {it : I} {ds : List D} (f : D → Int) (h1 : runI G it ρ = .ok (ds, ρ1, none)) (h2 : ρ1.at v = .no) (hv : v < ρ1.length) (hl : ds.length ≤ 16777216)
    (hf : ∀ x ∈ ds, runE G elt (ρ1.set v (.val x)) = .ok (.val (.int (f x)), ρ1.set v (.val x))) {res : Int} (hr : (ds.map f).sum = res) : runE G (.gen .sum elt (.nm v) it .nop) ρ = .ok (.val (.int res), ρ1) := by
  have hw := wipe_free h2 hv
  have e : ds.flatMap (fun x => [D.int (f x)]) = ds.map fun x => D.int (f x) := by
    clear hl hf h1 hr
    induction ds with
    | nil => rfl
    | cons x ds ih => simp [List.flatMap_cons, ih]
  have q := loopC_pure (turn := turnC (setT (.nm v)) [v] (runC G .nop) (runL G elt)) (f := fun x => [.int (f x)]) ρ1 ds [] (fun x hx => turn_pure (fun _ => true) (fun x => .int (f x)) h2 hv rfl fun _ => ⟨_, rfl, hf x hx⟩) (by rw [e]; simp; omega)
  rw [e, List.nil_append] at q
  subst hr
  rw [runE_sum]
  simp only [h1, Res.ok_bind, T.slots, wipable1 h2 hv, if_true, hw, q, back, dInts_map, Res.of_some]
/-- [f(x) for x in ds], no test -/
theorem ev_lcn {elt : E} {v : Nat} {it : I} {ds : List D} (f : D → D) (h1 : runI G it ρ = .ok (ds, ρ1, none)) (h2 : ρ1.at v = .no) (hv : v < ρ1.length) (hl : ds.length ≤ 16777216)
    (hf : ∀ x ∈ ds, ∃ r : Rv, r.d = f x ∧ runE G elt (ρ1.set v (.val x)) = .ok (r, ρ1.set v (.val x))) {zs : List D} (hz : ds.map f = zs) : runE G (.lc elt (.nm v) it .nop) ρ = .ok (.own (.lst zs), ρ1) := by
  have q := ev_lc1 (c := .nop) (fun _ => true) f h1 h2 hv hl (fun x _ => rfl) (fun x hx _ => hf x hx)
  rw [filter_tt, hz] at q
  exact q
/-- {k(x): v(x) for x in ds} -/
theorem loopD_pure {turn : D → List (Ky × D) → Env → Res (List (Ky × D) × Env)} {kf : D → Ky} {f : D → D} (ρ : Env) : ∀ (ds : List D) (acc : List (Ky × D)), (∀ x ∈ ds, ∀ acc, acc.length + 1 ≤ 16777216 → turn x acc ρ = .ok (storeK acc (kf x) (f x), ρ)) → acc.length + ds.length ≤ 16777216 → loopD turn ds acc ρ = .ok (ds.foldl (fun acc x => storeK acc (kf x) (f x)) acc, ρ)
  | [], acc, _, _ => rfl
  | x :: ds, acc, h, hl => by
    have hs : (storeK acc (kf x) (f x)).length ≤ acc.length + 1 := by
      unfold storeK
      split <;> simp
    have q := loopD_pure (kf := kf) (f := f) ρ ds (storeK acc (kf x) (f x)) (fun y hy => h y (List.mem_cons_of_mem _ hy)) (by simp at hl; omega)
    simp only [loopD, h x List.mem_cons_self acc (by simp at hl; omega), Res.ok_bind, List.foldl_cons]
    exact q
theorem ev_dc1 {kx vx : E} {v : Nat} {it : I} {ds : List D} (kf : D → Ky) (f : D → D) (h1 : runI G it ρ = .ok (ds, ρ1, none)) (h2 : ρ1.at v = .no) (hv : v < ρ1.length) (hl : ds.length ≤ 16777216)
    (hf : ∀ x ∈ ds, ∃ r r' : Rv, runE G kx (ρ1.set v (.val x)) = .ok (r, ρ1.set v (.val x)) ∧ kyOf r.d = some (kf x) ∧ r'.d = f x ∧ runE G vx (ρ1.set v (.val x)) = .ok (r', ρ1.set v (.val x))) {zs : List (Ky × D)} (hz : ds.foldl (fun acc x => storeK acc (kf x) (f x)) [] = zs) : runE G (.dc kx vx (.nm v) it .nop) ρ = .ok (.own (.dct zs), ρ1) := by
  have hw := wipe_free h2 hv
  have hnop : E.nop.isNop = true := rfl
  have q := loopD_pure (turn := turnD (setT (.nm v)) [v] (runC G .nop) (runKV G kx vx)) (kf := kf) (f := f) ρ1 ds [] (fun x hx acc ha => by
    obtain ⟨r, r', g1, g2, g3, g4⟩ := hf x hx
    have hww : wipe (ρ1.set v (.val x)) [v] = ρ1 := by
      show (ρ1.set v (.val x)).set v .no = ρ1
      rw [List.set_set]
      exact hw
    have hs : setT (.nm v) x ρ1 = some (ρ1.set v (.val x)) := by cases v <;> simp only [setT, Env.put, h2]
    have hz : lineOk (acc.length + 1) = true := decide_eq_true ha
    simp only [turnD, hs, runC, runKV, hnop, if_true, Res.of_some, Res.ok_bind, g1, g2, g4, hz, hww, g3]) (by simp; omega)
  subst hz
  rw [runE_dc]
  simp only [h1, Res.ok_bind, T.slots, wipable1 h2 hv, if_true, hw, q, back]
theorem ev_dic {rs : List Rv} {kvs : List (Ky × D)} (h1 : runEs G es ρ = .ok (rs, ρ1)) (h2 : pairsK (rs.map Rv.d) = some kvs) (h3 : kvs.length ≤ 15) {zs : List (Ky × D)} (h4 : mergeD [] kvs = zs) : runE G (.dic es) ρ = .ok (.own (.dct zs), ρ1) := by
  subst h4
  simp only [runE, h1, Res.ok_bind, h2, Res.of_some, decide_eq_true h3, if_true]
theorem ev_lrg {n : Nat} (h1 : runE G a ρ = .ok (x, ρ1)) (h2 : x.d = .int n) (h3 : n ≤ 16777216) {ds : List D} (h4 : ranged 0 1 n = ds) : runE G (.lrg a) ρ = .ok (.own (.lst ds), ρ1) := by
  subst h4
  have e1 : inR (n : Int) = true := by
    unfold inR
    rw [Bool.and_eq_true]
    exact ⟨decide_eq_true (by omega), decide_eq_true (by omega)⟩
  have e2 : lineOk (Int.toNat (n : Int)) = true := decide_eq_true (by omega)
  simp only [runE, h1, Res.ok_bind, h2, e1, e2, Bool.and_self, if_true]
  rfl
theorem ev_sme {m : Sm1} (h1 : runE G a ρ = .ok (x, ρ1)) (h2 : runE G b ρ1 = .ok (y, ρ2)) (h3 : dSm m x.d y.d = some d) : runE G (.sme m a b) ρ = .ok (.val d, ρ2) := by simp only [runE, h1, h2, h3, Res.of_some, Res.ok_bind]
theorem ev_isi {ty : Ty} (h1 : runE G a ρ = .ok (x, ρ1)) (h2 : dIsi ty x.d = some t) : runE G (.isi ty a) ρ = .ok (.val (.bl t), ρ1) := by simp only [runE, h1, h2, Res.of_some, Res.ok_bind]
theorem run_nx {n np : Nat} {B : Ss} {ps ps' : List Sl} (hl : ps.length = np) (h : runSs G B (ps ++ List.replicate (n - np) .no) = .ok (.nx ρ)) (h2 : np ≤ ρ.length) (h3 : ρ.take np = ps') : runF G n np B ps = .ok (.val .non, ps') := by
  unfold runF
  rw [if_pos hl, h]
  simp only [Res.ok_bind, h2, if_true, h3]
end
end Gw

set_option Elab.async false
set_option linter.all false
set_option maxRecDepth 100000
set_option maxHeartbeats 1000000
/-! Growths of two letters: tables, lengths, the letter at a place. Plain Lean. -/
namespace Grow
structure M2 where
  a : Nat
  b : Nat
  c : Nat
  d : Nat
def M2.mul (x y : M2) : M2 := ⟨x.a * y.a + x.b * y.c, x.a * y.b + x.b * y.d, x.c * y.a + x.d * y.c, x.c * y.b + x.d * y.d⟩
def M2.one : M2 := ⟨1, 0, 0, 1⟩
def M2.pow (x : M2) : Nat → M2
  | 0 => .one
  | n + 1 => (M2.pow x n).mul x
theorem M2.ext {x y : M2} (h1 : x.a = y.a) (h2 : x.b = y.b) (h3 : x.c = y.c) (h4 : x.d = y.d) : x = y := by
  cases x; cases y; simp at h1 h2 h3 h4; simp [h1, h2, h3, h4]
theorem M2.assoc (x y z : M2) : (x.mul y).mul z = x.mul (y.mul z) := by
  apply M2.ext <;> simp only [M2.mul] <;> grind
theorem M2.one_mul (x : M2) : M2.one.mul x = x := by apply M2.ext <;> simp [M2.mul, M2.one]
theorem M2.mul_one (x : M2) : x.mul M2.one = x := by apply M2.ext <;> simp [M2.mul, M2.one]
theorem M2.pow_add (x : M2) (m : Nat) : ∀ n, x.pow (m + n) = (x.pow m).mul (x.pow n)
  | 0 => by rw [Nat.add_zero, M2.pow, M2.mul_one]
  | n + 1 => by rw [← Nat.add_assoc, M2.pow, M2.pow_add x m n, M2.assoc, ← M2.pow]
theorem M2.pow_one (x : M2) : x.pow 1 = x := by rw [M2.pow, M2.pow, M2.one_mul]
theorem M2.pow_two (x : M2) : x.pow 2 = x.mul x := by rw [M2.pow, M2.pow_one]
theorem M2.pow_mul (x : M2) (m : Nat) : ∀ n, x.pow (m * n) = (x.pow m).pow n
  | 0 => rfl
  | n + 1 => by rw [Nat.mul_add, Nat.mul_one, M2.pow_add, M2.pow_mul x m n, M2.pow]
/-- below a power of two -/
structure M2.Lt (x : M2) (k : Nat) : Prop where
  a : x.a < 2 ^ k
  b : x.b < 2 ^ k
  c : x.c < 2 ^ k
  d : x.d < 2 ^ k
theorem lt_mul2 {p q r s j k : Nat} (h1 : p < 2 ^ j) (h2 : q < 2 ^ k) (h3 : r < 2 ^ j) (h4 : s < 2 ^ k) : p * q + r * s < 2 ^ (j + k + 1) := by
  have e1 : p * q < 2 ^ (j + k) := by
    rw [Nat.pow_add]
    exact Nat.mul_lt_mul'' h1 h2
  have e2 : r * s < 2 ^ (j + k) := by
    rw [Nat.pow_add]
    exact Nat.mul_lt_mul'' h3 h4
  rw [Nat.pow_succ]; omega
theorem M2.Lt.mul {x y : M2} {j k : Nat} (h : x.Lt j) (g : y.Lt k) : (x.mul y).Lt (j + k + 1) :=
  ⟨lt_mul2 h.a g.a h.b g.c, lt_mul2 h.a g.b h.b g.d, lt_mul2 h.c g.a h.d g.c, lt_mul2 h.c g.b h.d g.d⟩
theorem M2.Lt.mono {x : M2} {j k : Nat} (h : x.Lt j) (hk : j ≤ k) : x.Lt k := by
  have e : 2 ^ j ≤ 2 ^ k := Nat.pow_le_pow_right (by decide) hk
  exact ⟨Nat.lt_of_lt_of_le h.a e, Nat.lt_of_lt_of_le h.b e, Nat.lt_of_lt_of_le h.c e, Nat.lt_of_lt_of_le h.d e⟩
theorem M2.one_lt : M2.one.Lt 1 := ⟨by decide, by decide, by decide, by decide⟩

/-! ### words of a and b -/
def AB (w : List Nat) : Prop := ∀ c ∈ w, c = 97 ∨ c = 98
def val (l : Nat × Nat) (x : Nat) : Nat := if x = 97 then l.1 else l.2
def tot (l : Nat × Nat) (w : List Nat) : Nat := (w.map (val l)).sum
/-- the two letters' words -/
structure Gs where
  wa : List Nat
  wb : List Nat
def Gs.at (g : Gs) (x : Nat) : List Nat := if x = 97 then g.wa else g.wb
structure Gs.Ok (g : Gs) : Prop where
  a : AB g.wa
  b : AB g.wb
  la : g.wa.length ≤ 3
  lb : g.wb.length ≤ 3
def Gs.lens (g : Gs) : Nat → Nat × Nat
  | 0 => (1, 1)
  | n + 1 => (tot (g.lens n) g.wa, tot (g.lens n) g.wb)
def Gs.tab (g : Gs) : M2 := ⟨g.wa.count 97, g.wb.count 97, g.wa.count 98, g.wb.count 98⟩
theorem tot_nil (l : Nat × Nat) : tot l [] = 0 := rfl
theorem tot_cons (l : Nat × Nat) (x : Nat) (w : List Nat) : tot l (x :: w) = val l x + tot l w := by simp [tot]
theorem tot_append (l : Nat × Nat) (v w : List Nat) : tot l (v ++ w) = tot l v + tot l w := by simp [tot]
theorem tot_counts (l : Nat × Nat) : ∀ {w : List Nat}, AB w → tot l w = w.count 97 * l.1 + w.count 98 * l.2
  | [], _ => by simp [tot]
  | x :: w, h => by
    have hw : AB w := fun c hc => h c (List.mem_cons_of_mem _ hc)
    rw [tot_cons, tot_counts l hw]
    rcases h x List.mem_cons_self with rfl | rfl
    · simp [val, List.count_cons]; grind
    · simp [val, List.count_cons]; grind
theorem le_tot {l : Nat × Nat} : ∀ {w : List Nat} {y : Nat}, y ∈ w → val l y ≤ tot l w
  | x :: w, y, h => by
    rw [tot_cons]
    rcases List.mem_cons.mp h with rfl | h
    · omega
    · have := le_tot (l := l) h; omega
theorem val_lens (g : Gs) (n x : Nat) : val (g.lens (n + 1)) x = tot (g.lens n) (g.at x) := by
  unfold val Gs.at
  split <;> rfl
/-- the columns' sums of a power -/
theorem cols (g : Gs) (hg : g.Ok) : ∀ n, (g.tab.pow n).a + (g.tab.pow n).c = (g.lens n).1 ∧ (g.tab.pow n).b + (g.tab.pow n).d = (g.lens n).2
  | 0 => ⟨rfl, rfl⟩
  | n + 1 => by
    obtain ⟨h1, h2⟩ := cols g hg n
    simp only [M2.pow, M2.mul, Gs.lens, Gs.tab] at h1 h2 ⊢
    rw [tot_counts _ hg.a, tot_counts _ hg.b, ← h1, ← h2]
    constructor <;> grind
theorem tot_le {l : Nat × Nat} {k : Nat} (h1 : l.1 ≤ k) (h2 : l.2 ≤ k) : ∀ w : List Nat, tot l w ≤ w.length * k
  | [] => by simp [tot]
  | x :: w => by
    rw [tot_cons, List.length_cons, Nat.add_mul, Nat.one_mul]
    have := tot_le h1 h2 w
    have : val l x ≤ k := by unfold val; split <;> omega
    omega
theorem lens_le (g : Gs) (hg : g.Ok) : ∀ n, (g.lens n).1 ≤ 3 ^ n ∧ (g.lens n).2 ≤ 3 ^ n
  | 0 => ⟨Nat.le_refl 1, Nat.le_refl 1⟩
  | n + 1 => by
    obtain ⟨h1, h2⟩ := lens_le g hg n
    have e1 := tot_le h1 h2 g.wa
    have e2 := tot_le h1 h2 g.wb
    have e3 : g.wa.length * 3 ^ n ≤ 3 * 3 ^ n := Nat.mul_le_mul_right _ hg.la
    have e4 : g.wb.length * 3 ^ n ≤ 3 * 3 ^ n := Nat.mul_le_mul_right _ hg.lb
    rw [Nat.pow_succ]
    simp only [Gs.lens]
    constructor <;> omega
theorem pow3_lt (n : Nat) : 3 ^ n < 2 ^ (2 * n + 1) := by
  induction n with
  | zero => decide
  | succ n ih =>
    rw [Nat.pow_succ, show 2 * (n + 1) + 1 = (2 * n + 1) + 2 by omega, Nat.pow_add]
    omega
theorem tab_lt (g : Gs) (hg : g.Ok) (n : Nat) : (g.tab.pow n).Lt (2 * n + 1) := by
  obtain ⟨h1, h2⟩ := cols g hg n
  obtain ⟨h3, h4⟩ := lens_le g hg n
  have h5 := pow3_lt n
  exact ⟨by omega, by omega, by omega, by omega⟩
/-! ### the letter at a place -/
/-- the first letter whose length goes beyond the place -/
def find (l : Nat × Nat) : List Nat → Nat → Option Nat × Nat
  | [], p => (none, p)
  | x :: w, p => if p < val l x then (some x, p) else find l w (p - val l x)
theorem find_none {l : Nat × Nat} : ∀ {w : List Nat} {p : Nat}, tot l w ≤ p → (find l w p).1 = none
  | [], p, _ => rfl
  | x :: w, p, h => by
    rw [tot_cons] at h
    unfold find
    rw [if_neg (by omega)]
    exact find_none (by omega)
theorem find_some {l : Nat × Nat} : ∀ {w : List Nat} {p : Nat}, p < tot l w → ∃ x q, find l w p = (some x, q) ∧ x ∈ w ∧ q < val l x ∧ q ≤ p
  | [], p, h => by simp [tot] at h
  | x :: w, p, h => by
    rw [tot_cons] at h
    unfold find
    by_cases hp : p < val l x
    · rw [if_pos hp]
      exact ⟨x, p, rfl, List.mem_cons_self, hp, Nat.le_refl _⟩
    · rw [if_neg hp]
      obtain ⟨y, q, h1, h2, h3, h4⟩ := find_some (l := l) (w := w) (p := p - val l x) (by omega)
      exact ⟨y, q, h1, List.mem_cons_of_mem _ h2, h3, by omega⟩
def Gs.letter (g : Gs) : Nat → List Nat → Nat → Option Nat
  | 0, w, p => (find (g.lens 0) w p).1
  | n + 1, w, p => match (find (g.lens (n + 1)) w p) with
    | (none, _) => none
    | (some x, q) => g.letter n (g.at x) q
theorem letter_none (g : Gs) {n : Nat} {w : List Nat} {p : Nat} (h : tot (g.lens n) w ≤ p) : g.letter n w p = none := by
  cases n with
  | zero => exact find_none h
  | succ n =>
    have e := find_none h
    unfold Gs.letter
    split
    · rfl
    · rename_i x q e2
      rw [e2] at e; cases e
theorem letter_some (g : Gs) (hg : g.Ok) : ∀ {n : Nat} {w : List Nat} {p : Nat}, AB w → p < tot (g.lens n) w → ∃ x, g.letter n w p = some x ∧ (x = 97 ∨ x = 98)
  | 0, w, p, hw, h => by
    obtain ⟨x, q, h1, h2, h3, _⟩ := find_some h
    exact ⟨x, by unfold Gs.letter; rw [h1], hw x h2⟩
  | n + 1, w, p, hw, h => by
    obtain ⟨x, q, h1, h2, h3, _⟩ := find_some h
    have hx : AB (g.at x) := by unfold Gs.at; split; exact hg.a; exact hg.b
    obtain ⟨y, h4, h5⟩ := letter_some g hg (n := n) (w := g.at x) (p := q) hx (by rw [← val_lens]; exact h3)
    exact ⟨y, by unfold Gs.letter; rw [h1]; exact h4, h5⟩
/-! ### the last place -/
def lastL (l : Nat × Nat) (w : List Nat) : List Nat := (w.filter fun x => decide (0 < val l x)).drop ((w.filter fun x => decide (0 < val l x)).length - 1)
theorem find_last {l : Nat × Nat} : ∀ {w : List Nat}, 0 < tot l w → ∃ x, lastL l w = [x] ∧ x ∈ w ∧ 0 < val l x ∧ find l w (tot l w - 1) = (some x, val l x - 1)
  | [], h => by simp [tot] at h
  | x :: w, h => by
    rw [tot_cons] at h ⊢
    unfold find
    by_cases h0 : tot l w = 0
    · rw [h0, Nat.add_zero, if_pos (by omega)]
      have hn : w.filter (fun x => decide (0 < val l x)) = [] := by
        rw [List.filter_eq_nil_iff]
        intro y hy
        have : val l y ≤ tot l w := le_tot hy
        simp; omega
      have hx : 0 < val l x := by omega
      refine ⟨x, ?_, List.mem_cons_self, hx, rfl⟩
      unfold lastL
      rw [List.filter_cons, decide_eq_true hx, if_pos rfl, hn]
      rfl
    · rw [if_neg (by omega)]
      obtain ⟨y, h1, h2, h3, h4⟩ := find_last (l := l) (w := w) (by omega)
      refine ⟨y, ?_, List.mem_cons_of_mem _ h2, h3, ?_⟩
      · unfold lastL at h1 ⊢
        rw [List.filter_cons]
        split
        · have hl : 0 < (w.filter fun x => decide (0 < val l x)).length := by
            cases e : w.filter fun x => decide (0 < val l x) with
            | nil => rw [e] at h1; cases h1
            | cons _ _ => simp
          rw [List.length_cons, show (w.filter fun x => decide (0 < val l x)).length + 1 - 1 = ((w.filter fun x => decide (0 < val l x)).length - 1) + 1 by omega, List.drop_succ_cons]
          exact h1
        · exact h1
      · rw [show val l x + tot l w - 1 - val l x = tot l w - 1 by omega]
        exact h4
/-- the law's own way to the last letter -/
def Gs.ends (g : Gs) : Nat → List Nat → List Nat
  | 0, e => e
  | n + 1, e => g.ends n (lastL (g.lens n) (e.flatMap g.at))
theorem letter_last (g : Gs) : ∀ {n : Nat} {w : List Nat}, 0 < tot (g.lens n) w → ∃ x, g.letter n w (tot (g.lens n) w - 1) = some x ∧ g.ends n (lastL (g.lens n) w) = [x]
  | 0, w, h => by
    obtain ⟨x, h1, h2, h3, h4⟩ := find_last h
    exact ⟨x, by unfold Gs.letter; rw [h4], by rw [h1]; rfl⟩
  | n + 1, w, h => by
    obtain ⟨x, h1, h2, h3, h4⟩ := find_last h
    rw [val_lens] at h3 h4
    obtain ⟨y, h5, h6⟩ := letter_last g (n := n) (w := g.at x) h3
    refine ⟨y, by unfold Gs.letter; rw [h4]; exact h5, ?_⟩
    rw [h1]
    unfold Gs.ends
    rw [List.flatMap_cons, List.flatMap_nil, List.append_nil]
    exact h6
end Grow

set_option Elab.async false
set_option linter.all false
set_option maxRecDepth 100000
set_option maxHeartbeats 1000000
namespace GwK
open PySem L2 Gw Grow
local macro_rules | `(tactic| walk_at "set") => `(tactic| first | (simp only [List.set_cons_succ, List.set_cons_zero]; done) | (simp only [List.set_cons_succ, List.set_cons_zero]; rfl) | rfl)
local macro_rules | `(tactic| walk_at "len") => `(tactic| first | omega | (simp only [List.length_cons, List.length_nil, List.length_append, List.length_map]; omega) | (simp; omega))
local macro_rules | `(tactic| walk_at "cond") => `(tactic| first | rfl | assumption | (simp only [Rv.d, D.eqb, decide_eq_true_eq, decide_eq_false_iff_not, beq_iff_eq, bne_iff_ne, Bool.not_eq_true', Bool.not_eq_false', Bool.and_eq_true, Bool.or_eq_true, beq_eq_false_iff_ne]; first | assumption | omega) | (simp [Rv.d, D.eqb, *]; done))
local macro_rules | `(tactic| walk_at "leaf") => `(tactic| first | rfl | (refine dBin_add_str ?_; walk_at "len") | (refine dBin_mod ?_; omega) | (refine dBin_fdiv ?_ ?_ <;> omega) | (refine dBin_mulR ?_; decide) | (refine dBin_mulL ?_; decide) | (refine dBi_len_str ?_; walk_at "len") | (refine dCut_str ?_; walk_at "len") | (show _ ≤ 16777216; walk_at "len"))
local macro_rules | `(tactic| walk_at "call") => `(tactic| first | with_reducible assumption | (simp only [List.map_cons, List.map_nil, Rv.d]; with_reducible assumption))
local macro_rules | `(tactic| walk_at "ev") => `(tactic| repeat' (first
  | with_reducible exact ev_cst | with_reducible exact es_nil | with_reducible exact ss_nil | ((with_reducible apply ev_var); rfl) | ((with_reducible apply ev_own); rfl; walk_at "set")
  | with_reducible apply es_cons | with_reducible apply ss_cons | with_reducible exact seq_rt | ((with_reducible refine seq_rtb ?h); (case h => walk_at "cond")) | with_reducible apply seq_nx
  | ((with_reducible refine m_t ?h ?_); (case h => walk_at "cond")) | ((with_reducible refine m_f ?h ?_); (case h => walk_at "cond"))
  | with_reducible apply ev_bin | with_reducible apply ev_cmp | with_reducible apply ev_cmv | with_reducible apply ev_neg | with_reducible apply ev_chn | with_reducible apply ev_chn2 | with_reducible apply ev_and | with_reducible apply ev_or | with_reducible apply ev_not | with_reducible apply ev_ite | with_reducible apply ev_tup | with_reducible apply ev_lst | with_reducible apply ev_idv | with_reducible apply ev_idx | with_reducible apply ev_sli0 | with_reducible apply ev_sli1 | with_reducible apply ev_sli2 | with_reducible apply ev_sli3 | with_reducible apply ev_lenv | with_reducible apply ev_inv | with_reducible apply ev_bi | with_reducible apply ev_joi | with_reducible apply rs_asg | with_reducible apply rs_asg0 | with_reducible apply rs_ife | with_reducible apply rs_ret | with_reducible apply rs_exp | with_reducible apply rs_aug
  | with_reducible apply rs_setR | with_reducible apply rs_setO | with_reducible apply ev_cal | with_reducible apply rs_unp | with_reducible apply rs_par | with_reducible apply rs_app | with_reducible apply ev_sme | with_reducible apply ev_isi | with_reducible apply ev_dic | ((with_reducible apply ev_glb); rfl)
  | walk_at "call"
  | walk_at "leaf" | walk_at "set"))

def cst : Nat → Option D
  | 0 => some (.int 1000)
  | _ => none
abbrev Ph (n : Nat) : Nat → Fn := Phi dfs cst n
abbrev GG (n : Nat) : Glo := ⟨Ph n, cst⟩
theorem run_is_whole {G : Glo} {t hi : Int} (h0 : 0 ≤ t) (h1 : t ≤ hi) : runF G 3 3 ir_is_whole [.val (.int t), .val (.int 0), .val (.int hi)] = .ok (.val (.bl true), [.val (.int t), .val (.int 0), .val (.int hi)]) := by
  refine run_ret (ρ := [.val (.int t), .val (.int 0), .val (.int hi)]) rfl ?_ (by simp) rfl
  show runSs G ir_is_whole [.val (.int t), .val (.int 0), .val (.int hi)] = _
  unfold ir_is_whole
  walk_at "ev"
theorem run_check_whole {n : Nat} {t hi : Int} (h0 : 0 ≤ t) (h1 : t ≤ hi) : Ph (n + 2) 1 [.val (.int t), .val (.int 0), .val (.int hi)] = .ok (.val .non, [.val (.int t), .val (.int 0), .val (.int hi)]) := by
  show runF (GG (n + 1)) 3 3 ir_check_whole _ = _
  refine run_nx (ρ := [.val (.int t), .val (.int 0), .val (.int hi)]) rfl ?_ (by simp) rfl
  show runSs (GG (n + 1)) ir_check_whole [.val (.int t), .val (.int 0), .val (.int hi)] = _
  unfold ir_check_whole
  have hc : (GG (n + 1)).fn 0 [.val (.int t), .val (.int 0), .val (.int hi)] = .ok (.val (.bl true), [.val (.int t), .val (.int 0), .val (.int hi)]) := run_is_whole h0 h1
  walk_at "ev"
def ab : D := .str [97, 98]
def mat (m : M2) : D := .tup [.tup [.int m.a, .int m.b], .tup [.int m.c, .int m.d]]
def gd (g : Gs) : D := .dct [(.s [97], .str g.wa), (.s [98], .str g.wb)]
theorem mem_ab {x : D} (h : x ∈ signs [97, 98]) : x = .str [97] ∨ x = .str [98] := by simpa [signs] using h
def sgn : D → Nat
  | .str [c] => c
  | _ => 0
theorem run_counts {G : Glo} {w : List Nat} : runF G 3 2 ir_counts [.val ab, .val (.str w)] = .ok (.val (.tup [.int (w.count 97 : Nat), .int (w.count 98 : Nat)]), [.val ab, .val (.str w)]) := by
  refine run_ret (ρ := [.val ab, .val (.str w), .no]) rfl ?_ (by simp) rfl
  show runSs G ir_counts [.val ab, .val (.str w), .no] = _
  unfold ir_counts
  refine ss_cons (rs_ret (ev_bi (rs := [.own (.lst [.int (w.count 97 : Nat), .int (w.count 98 : Nat)])]) (es_cons ?_ es_nil) rfl)) seq_rt
  refine ev_lcn (ds := signs [97, 98]) (fun x => .int (w.count (sgn x) : Nat)) (ri_frz (ev_var rfl) rfl) rfl (by simp) (by simp [signs]) (fun x hx => ⟨.val (.int (w.count (sgn x) : Nat)), rfl, ?_⟩) rfl
  rcases mem_ab hx with rfl | rfl
  · exact ev_sme (ev_var rfl) (ev_var rfl) rfl
  · exact ev_sme (ev_var rfl) (ev_var rfl) rfl
theorem gd_at (g : Gs) {x : Nat} (h : x = 97 ∨ x = 98) : dIdx (gd g) (.str [x]) = some (.str (g.at x)) := by
  rcases h with rfl | rfl <;> rfl
theorem run_table_of {G : Glo} {g : Gs} : runF G 4 2 ir_table_of [.val (gd g), .val ab] = .ok (.val (mat g.tab), [.val (gd g), .val ab]) := by
  refine run_ret (ρ := [.val (gd g), .val ab, .no, .no]) rfl ?_ (by simp) rfl
  show runSs G ir_table_of [.val (gd g), .val ab, .no, .no] = _
  unfold ir_table_of
  refine ss_cons (rs_ret (ev_bi (rs := [.own (.lst [.tup [.int (g.wa.count 97 : Nat), .int (g.wb.count 97 : Nat)], .tup [.int (g.wa.count 98 : Nat), .int (g.wb.count 98 : Nat)]])]) (es_cons ?_ es_nil) rfl)) seq_rt
  refine ev_lcn (ds := signs [97, 98]) (fun x => .tup [.int (g.wa.count (sgn x) : Nat), .int (g.wb.count (sgn x) : Nat)]) (ri_frz (ev_var rfl) rfl) rfl (by simp) (by simp [signs]) (fun x hx => ⟨.val (.tup [.int (g.wa.count (sgn x) : Nat), .int (g.wb.count (sgn x) : Nat)]), rfl, ?_⟩) rfl
  refine ev_bi (rs := [.own (.lst [.int (g.wa.count (sgn x) : Nat), .int (g.wb.count (sgn x) : Nat)])]) (es_cons ?_ es_nil) rfl
  refine ev_lcn (ds := signs [97, 98]) (fun y => .int ((g.at (sgn y)).count (sgn x) : Nat)) (ri_frz (ev_var rfl) rfl) rfl (by simp) (by simp [signs]) (fun y hy => ⟨.val (.int ((g.at (sgn y)).count (sgn x) : Nat)), rfl, ?_⟩) rfl
  have hx' : x = .str [sgn x] := by rcases mem_ab hx with rfl | rfl <;> rfl
  have hy' : y = .str [sgn y] := by rcases mem_ab hy with rfl | rfl <;> rfl
  have hyc : sgn y = 97 ∨ sgn y = 98 := by rcases mem_ab hy with rfl | rfl <;> simp [sgn]
  generalize sgn x = cx at *
  generalize sgn y = cy at *
  subst hx' hy'
  exact ev_sme (ev_idv (d1 := gd g) (d2 := gd g) (y := .val (.str [cy])) rfl (ev_var rfl) rfl (gd_at g hyc)) (ev_var rfl) rfl
theorem run_times {G : Glo} {x y : M2} {j k : Nat} (hx : x.Lt j) (hy : y.Lt k) (hj : j + k < 500000) : runF G 6 2 ir_times [.val (mat x), .val (mat y)] = .ok (.val (mat (x.mul y)), [.val (mat x), .val (mat y)]) := by
  have mulok : ∀ {p q : Nat}, p < 2 ^ j → q < 2 ^ k → dBin .mul (.int (p : Int)) (.int (q : Int)) = some (.val (.int ((p * q : Nat) : Int))) := fun {p q} hp hq => by
    rw [dBin_mulW]
    · rfl
    · unfold wideMul
      refine decide_eq_true ?_
      simp only [Int.natAbs_natCast]
      have e1 : p.log2 ≤ j := by
        by_cases h0 : p = 0
        · subst h0; simp
        · have := (Nat.log2_lt h0).mpr hp; omega
      have e2 : q.log2 ≤ k := by
        by_cases h0 : q = 0
        · subst h0; simp
        · have := (Nat.log2_lt h0).mpr hq; omega
      omega
  refine run_ret (ρ := [.val (mat x), .val (mat y), .val (.lst [.int 0, .int 1]), .no, .no, .no]) rfl ?_ (by simp) rfl
  show runSs G ir_times [.val (mat x), .val (mat y), .no, .no, .no, .no] = _
  unfold ir_times
  refine ss_cons (rs_asg (x := .own (.lst [.int 0, .int 1])) (ρ1 := [.val (mat x), .val (mat y), .no, .no, .no, .no]) (ev_lrg (n := 2) (x := .val (.int 2)) (ev_lenv (d := mat x) rfl rfl) rfl (by decide) rfl) rfl) (seq_nx ?_)
  have two : ∀ {z : D}, z ∈ [D.int 0, D.int 1] → z = .int 0 ∨ z = .int 1 := fun h => by simpa using h
  refine ss_cons (rs_ret (ev_bi (rs := [.own (.lst [.tup [.int (x.mul y).a, .int (x.mul y).b], .tup [.int (x.mul y).c, .int (x.mul y).d]])]) (es_cons ?_ es_nil) rfl)) seq_rt
  refine ev_lcn (ds := [.int 0, .int 1]) (fun z => match z with
    | .int 0 => .tup [.int (x.mul y).a, .int (x.mul y).b]
    | _ => .tup [.int (x.mul y).c, .int (x.mul y).d]) (ri_frz (x := .val (.lst [.int 0, .int 1])) (ev_own rfl rfl) rfl) rfl (by simp) (by simp) (fun z hz => ?_) rfl
  have inner : ∀ (p q : Nat) (z : D), dIdx (mat x) z = some (.tup [.int p, .int q]) → p < 2 ^ j → q < 2 ^ j →
      runE G (.bi .tuple (.cons (.lc (.gen .sum (.bin .mul (.idx (.idv 0 (.var 5)) (.var 3)) (.idx (.idv 1 (.var 3)) (.var 4))) (.nm 3) (.frz (.var 2)) .nop) (.nm 4) (.frz (.var 2)) .nop) .nil)) [.val (mat x), .val (mat y), .val (.lst [.int 0, .int 1]), .no, .no, .val z] = .ok (.val (.tup [.int ((p * y.a + q * y.c : Nat) : Int), .int ((p * y.b + q * y.d : Nat) : Int)]), [.val (mat x), .val (mat y), .val (.lst [.int 0, .int 1]), .no, .no, .val z]) := fun p q z hz hp hq => by
    refine ev_bi (rs := [.own (.lst [.int ((p * y.a + q * y.c : Nat) : Int), .int ((p * y.b + q * y.d : Nat) : Int)])]) (es_cons ?_ es_nil) rfl
    refine ev_lcn (ds := [.int 0, .int 1]) (fun u => match u with
      | .int 0 => .int ((p * y.a + q * y.c : Nat) : Int)
      | _ => .int ((p * y.b + q * y.d : Nat) : Int)) (ri_frz (x := .val (.lst [.int 0, .int 1])) (ev_var rfl) rfl) rfl (by simp) (by simp) (fun u hu => ?_) rfl
    have gen : ∀ (r s : Nat) (u : D), dIdx (.tup [.int y.a, .int y.b]) u = some (.int r) → dIdx (.tup [.int y.c, .int y.d]) u = some (.int s) → r < 2 ^ k → s < 2 ^ k → 
        runE G (.gen .sum (.bin .mul (.idx (.idv 0 (.var 5)) (.var 3)) (.idx (.idv 1 (.var 3)) (.var 4))) (.nm 3) (.frz (.var 2)) .nop) [.val (mat x), .val (mat y), .val (.lst [.int 0, .int 1]), .no, .val u, .val z] = .ok (.val (.int ((p * r + q * s : Nat) : Int)), [.val (mat x), .val (mat y), .val (.lst [.int 0, .int 1]), .no, .val u, .val z]) := fun r s u hr hs h1 h2 => by
      refine ev_gsum (ds := [.int 0, .int 1]) (fun v => match v with
        | .int 0 => ((p * r : Nat) : Int)
        | _ => ((q * s : Nat) : Int)) (ri_frz (x := .val (.lst [.int 0, .int 1])) (ev_var rfl) rfl) rfl (by simp) (by simp) (fun v hv => ?_) (by simp)
      rcases two hv with rfl | rfl
      · exact ev_bin (x := .val (.int p)) (y := .val (.int r)) (ev_idx (x := .val (.tup [.int p, .int q])) (y := .val (.int 0)) (ev_idv (d1 := mat x) (d2 := mat x) (y := .val z) rfl (ev_var rfl) rfl hz) (ev_var rfl) rfl) (ev_idx (x := .val (.tup [.int y.a, .int y.b])) (y := .val u) (ev_idv (d1 := mat y) (d2 := mat y) (y := .val (.int 0)) rfl (ev_var rfl) rfl rfl) (ev_var rfl) hr) (mulok hp h1)
      · exact ev_bin (x := .val (.int q)) (y := .val (.int s)) (ev_idx (x := .val (.tup [.int p, .int q])) (y := .val (.int 1)) (ev_idv (d1 := mat x) (d2 := mat x) (y := .val z) rfl (ev_var rfl) rfl hz) (ev_var rfl) rfl) (ev_idx (x := .val (.tup [.int y.c, .int y.d])) (y := .val u) (ev_idv (d1 := mat y) (d2 := mat y) (y := .val (.int 1)) rfl (ev_var rfl) rfl rfl) (ev_var rfl) hs) (mulok hq h2)
    rcases two hu with rfl | rfl
    · exact ⟨_, rfl, gen y.a y.c (.int 0) rfl rfl hy.a hy.c⟩
    · exact ⟨_, rfl, gen y.b y.d (.int 1) rfl rfl hy.b hy.d⟩
  rcases two hz with rfl | rfl
  · exact ⟨_, rfl, inner x.a x.b (.int 0) rfl hx.a hx.b⟩
  · exact ⟨_, rfl, inner x.c x.d (.int 1) rfl hx.c hx.d⟩
end GwK

set_option Elab.async false
set_option linter.all false
set_option maxRecDepth 100000
set_option maxHeartbeats 1000000
namespace GwK
open PySem L2 Gw Grow
local macro_rules | `(tactic| walk_at "set") => `(tactic| first | (simp only [List.set_cons_succ, List.set_cons_zero]; done) | (simp only [List.set_cons_succ, List.set_cons_zero]; rfl) | rfl)
local macro_rules | `(tactic| walk_at "len") => `(tactic| first | omega | (simp only [List.length_cons, List.length_nil, List.length_append, List.length_map]; omega) | (simp; omega))
local macro_rules | `(tactic| walk_at "cond") => `(tactic| first | rfl | assumption | (simp only [Rv.d, D.eqb, decide_eq_true_eq, decide_eq_false_iff_not, beq_iff_eq, bne_iff_ne, Bool.not_eq_true', Bool.not_eq_false', Bool.and_eq_true, Bool.or_eq_true, beq_eq_false_iff_ne]; first | assumption | omega) | (simp [Rv.d, D.eqb, *]; done))
local macro_rules | `(tactic| walk_at "leaf") => `(tactic| first | rfl | (refine dBin_add_str ?_; walk_at "len") | (refine dBin_mod ?_; omega) | (refine dBin_fdiv ?_ ?_ <;> omega) | (refine dBin_mulR ?_; decide) | (refine dBin_mulL ?_; decide) | (refine dBi_len_str ?_; walk_at "len") | (refine dCut_str ?_; walk_at "len") | (show _ ≤ 16777216; walk_at "len"))
local macro_rules | `(tactic| walk_at "call") => `(tactic| first | with_reducible assumption | (simp only [List.map_cons, List.map_nil, Rv.d]; with_reducible assumption))
local macro_rules | `(tactic| walk_at "ev") => `(tactic| repeat' (first
  | with_reducible exact ev_cst | with_reducible exact es_nil | with_reducible exact ss_nil | ((with_reducible apply ev_var); rfl) | ((with_reducible apply ev_own); rfl; walk_at "set")
  | with_reducible apply es_cons | with_reducible apply ss_cons | with_reducible exact seq_rt | ((with_reducible refine seq_rtb ?h); (case h => walk_at "cond")) | with_reducible apply seq_nx
  | ((with_reducible refine m_t ?h ?_); (case h => walk_at "cond")) | ((with_reducible refine m_f ?h ?_); (case h => walk_at "cond"))
  | with_reducible apply ev_bin | with_reducible apply ev_cmp | with_reducible apply ev_cmv | with_reducible apply ev_neg | with_reducible apply ev_chn | with_reducible apply ev_chn2 | with_reducible apply ev_and | with_reducible apply ev_or | with_reducible apply ev_not | with_reducible apply ev_ite | with_reducible apply ev_tup | with_reducible apply ev_lst | with_reducible apply ev_idv | with_reducible apply ev_idx | with_reducible apply ev_sli0 | with_reducible apply ev_sli1 | with_reducible apply ev_sli2 | with_reducible apply ev_sli3 | with_reducible apply ev_lenv | with_reducible apply ev_inv | with_reducible apply ev_bi | with_reducible apply ev_joi | with_reducible apply rs_asg | with_reducible apply rs_asg0 | with_reducible apply rs_ife | with_reducible apply rs_ret | with_reducible apply rs_exp | with_reducible apply rs_aug
  | with_reducible apply rs_setR | with_reducible apply rs_setO | with_reducible apply ev_cal | with_reducible apply rs_unp | with_reducible apply rs_par | with_reducible apply rs_app | with_reducible apply ev_sme | with_reducible apply ev_isi | with_reducible apply ev_dic | ((with_reducible apply ev_glb); rfl)
  | walk_at "call"
  | walk_at "leaf" | walk_at "set"))

abbrev Cn (G : Glo) (c : Gw.E) : Gw.Env → Res (Bool × Gw.Env) := fun ρ => (runE G c ρ).bind fun p => truR p.1 p.2
abbrev Bn (G : Glo) (b : Ss) : Gw.Env → Res Fl := fun ρ => runSs G b ρ
theorem cn_ok {G : Glo} {c : Gw.E} {ρ ρ1 : Gw.Env} {t : Bool} (h : runE G c ρ = .ok (.val (.bl t), ρ1)) : Cn G c ρ = .ok (t, ρ1) := by
  show (runE G c ρ).bind _ = _
  rw [h]; rfl
theorem ev_calA {G : Glo} {f : Nat} {es : Es} {rs : List Rv} {ρ ρ1 : Gw.Env} {r : Rv} {ps as : List Sl} (h1 : runEs G es ρ = .ok (rs, ρ1)) (e : (rs.map fun r => Sl.val r.d) = as) (h2 : G.fn f as = .ok (r, ps)) : runE G (.cal f es) ρ = .ok (r, ρ1) := by
  subst e
  exact ev_cal h1 h2
/-! ### powers -/
def tpC : Gw.E := .cmv .gt 1 (.cst (.int 0))
def tpB : Ss := (.cons (.ife (.cmp .eq (.bin .mod (.var 1) (.cst (.int 2))) (.cst (.int 1))) (.cons (.asg 3 (.cal 4 (.cons (.var 3) (.cons (.var 0) .nil)))) .nil) .nil) (.cons (.par [0, 1] (.cons (.cal 4 (.cons (.var 0) (.cons (.var 0) .nil))) (.cons (.bin .fdiv (.var 1) (.cst (.int 2))) .nil))) .nil))
def tpE (t : M2) (m : Nat) (f : M2) : Gw.Env := [.val (mat t), .val (.int (m : Int)), .val (.int 2), .val (mat f), .no, .no]
theorem fn5 (n : Nat) : (GG (n + 2)).fn 5 = runF (GG (n + 1)) 6 2 ir_table_power := rfl
theorem fn4 (n : Nat) : (GG (n + 1)).fn 4 = runF (GG n) 6 2 ir_times := rfl
theorem fn3 (n : Nat) : (GG (n + 1)).fn 3 = runF (GG n) 4 2 ir_table_of := rfl
theorem fn2 (n : Nat) : (GG (n + 1)).fn 2 = runF (GG n) 3 2 ir_counts := rfl
theorem call_times {n : Nat} {x y : M2} {j k : Nat} (hx : x.Lt j) (hy : y.Lt k) (hj : j + k < 500000) : (GG (n + 1)).fn 4 [.val (mat x), .val (mat y)] = .ok (.val (mat (x.mul y)), [.val (mat x), .val (mat y)]) := by
  rw [fn4]
  exact run_times hx hy hj
theorem call_table {n : Nat} {g : Gs} : (GG (n + 1)).fn 3 [.val (gd g), .val ab] = .ok (.val (mat g.tab), [.val (gd g), .val ab]) := by
  rw [fn3]
  exact run_table_of
theorem call_counts {n : Nat} {w : List Nat} : (GG (n + 1)).fn 2 [.val ab, .val (.str w)] = .ok (.val (.tup [.int (w.count 97 : Nat), .int (w.count 98 : Nat)]), [.val ab, .val (.str w)]) := by
  rw [fn2]
  exact run_counts
theorem pow_half (t : M2) (m : Nat) : t.pow m = (if m % 2 = 1 then t else M2.one).mul ((t.mul t).pow (m / 2)) := by
  rw [← M2.pow_two, ← M2.pow_mul]
  by_cases h : m % 2 = 1
  · rw [if_pos h]
    have e : m = 1 + 2 * (m / 2) := by omega
    have q := M2.pow_add t 1 (2 * (m / 2))
    rw [M2.pow_one, ← e] at q
    exact q
  · rw [if_neg h, M2.one_mul]
    congr 1; omega
theorem tp_loop {n : Nat} : ∀ (fuel m bt F0 : Nat) (t f : M2), m < 2 ^ fuel → fuel < F0 → t.Lt bt → f.Lt (bt + 1) → (bt + 1) * 2 ^ fuel ≤ 100000 → ∃ t', loopW (Cn (GG (n + 1)) tpC) (Bn (GG (n + 1)) tpB) F0 (tpE t m f) = .ok (.nx (tpE t' 0 (f.mul (t.pow m))))
  | _, _, _, 0, _, _, _, h, _, _, _ => by omega
  | fuel, 0, bt, F0 + 1, t, f, _, _, _, _, _ => by
    refine ⟨t, ?_⟩
    rw [M2.pow, M2.mul_one]
    exact whl_end (cn_ok (ev_cmv (d1 := .int 0) (d := .int 0) (x := .val (.int 0)) rfl ev_cst rfl rfl))
  | 0, m + 1, _, _, _, _, h, _, _, _, _ => by simp at h
  | fuel + 1, m + 1, bt, F0 + 1, t, f, hm, hF, ht, hf, hb => by
    have hb2 : (2 * bt + 1 + 1) * 2 ^ fuel ≤ 100000 := by
      rw [Nat.pow_succ] at hb
      have : (2 * bt + 1 + 1) * 2 ^ fuel = (bt + 1) * (2 ^ fuel * 2) := by rw [show 2 * bt + 1 + 1 = (bt + 1) * 2 by omega]; grind
      omega
    have hbt : bt ≤ 100000 := by
      have : (bt + 1) * 1 ≤ (bt + 1) * 2 ^ (fuel + 1) := Nat.mul_le_mul_left _ (Nat.one_le_two_pow)
      omega
    have hC : Cn (GG (n + 1)) tpC (tpE t (m + 1) f) = .ok (true, tpE t (m + 1) f) := cn_ok (ev_cmv (d1 := .int ((m + 1 : Nat) : Int)) (d := .int ((m + 1 : Nat) : Int)) (x := .val (.int 0)) rfl ev_cst rfl (by
      show some (decide ((0 : Int) < ((m + 1 : Nat) : Int))) = _
      rw [decide_eq_true (by omega)]))
    have hfd : dBin .fdiv (.int ((m + 1 : Nat) : Int)) (.int 2) = some (.val (.int (((m + 1) / 2 : Nat) : Int))) := by rw [dBin_fdiv (by decide) (by decide)]; rfl
    have par : ∀ f2 : M2, runS (GG (n + 1)) (.par [0, 1] (.cons (.cal 4 (.cons (.var 0) (.cons (.var 0) .nil))) (.cons (.bin .fdiv (.var 1) (.cst (.int 2))) .nil))) (tpE t (m + 1) f2) = .ok (.nx (tpE (t.mul t) ((m + 1) / 2) f2)) := fun f2 =>
      rs_par (rs := [.val (mat (t.mul t)), .val (.int (((m + 1) / 2 : Nat) : Int))]) (es_cons (ev_cal (rs := [.val (mat t), .val (mat t)]) (es_cons (ev_var rfl) (es_cons (ev_var rfl) es_nil)) (call_times ht ht (by omega))) (es_cons (ev_bin (x := .val (.int ((m + 1 : Nat) : Int))) (y := .val (.int 2)) (ev_var rfl) ev_cst hfd) es_nil)) rfl
    have hmod : runE (GG (n + 1)) (.cmp .eq (.bin .mod (.var 1) (.cst (.int 2))) (.cst (.int 1))) (tpE t (m + 1) f) = .ok (.val (.bl (decide ((m + 1) % 2 = 1))), tpE t (m + 1) f) := by
      refine ev_cmp (x := .val (.int (((m + 1) % 2 : Nat) : Int))) (y := .val (.int 1)) (ev_bin (x := .val (.int ((m + 1 : Nat) : Int))) (y := .val (.int 2)) (ev_var rfl) ev_cst (dBin_mod (by decide))) ev_cst ?_
      show some ((((m + 1) % 2 : Nat) : Int) == 1) = _
      congr 1
      rw [Bool.eq_iff_iff]
      simp only [beq_iff_eq, decide_eq_true_eq]
      omega
    have htt : (t.mul t).Lt (2 * bt + 1) := by have := ht.mul ht; rw [show bt + bt + 1 = 2 * bt + 1 by omega] at this; exact this
    by_cases ho : (m + 1) % 2 = 1
    · have hf' : (f.mul t).Lt (2 * bt + 1 + 1) := by have := hf.mul ht; rw [show bt + 1 + bt + 1 = 2 * bt + 1 + 1 by omega] at this; exact this
      obtain ⟨t', q⟩ := tp_loop (n := n) fuel ((m + 1) / 2) (2 * bt + 1) F0 (t.mul t) (f.mul t) (by rw [Nat.pow_succ] at hm; omega) (by omega) htt hf' hb2
      refine ⟨t', whl_step hC (f1 := .nx (tpE (t.mul t) ((m + 1) / 2) (f.mul t))) ?_ ?_⟩
      · refine ss_cons (f1 := .nx (tpE t (m + 1) (f.mul t))) (rs_ife hmod rfl (m_t (decide_eq_true ho) ?_)) (seq_nx (ss_cons (par _) (seq_nx ss_nil)))
        exact ss_cons (rs_asg (x := .val (mat (f.mul t))) (ρ1 := tpE t (m + 1) f) (ev_cal (rs := [.val (mat f), .val (mat t)]) (es_cons (ev_var rfl) (es_cons (ev_var rfl) es_nil)) (call_times hf ht (by omega))) rfl) (seq_nx ss_nil)
      · rw [pow_half t (m + 1), if_pos ho, ← M2.assoc]
        exact q
    · have hf' : f.Lt (2 * bt + 1 + 1) := hf.mono (by omega)
      obtain ⟨t', q⟩ := tp_loop (n := n) fuel ((m + 1) / 2) (2 * bt + 1) F0 (t.mul t) f (by rw [Nat.pow_succ] at hm; omega) (by omega) htt hf' hb2
      refine ⟨t', whl_step hC (f1 := .nx (tpE (t.mul t) ((m + 1) / 2) f)) ?_ ?_⟩
      · exact ss_cons (f1 := .nx (tpE t (m + 1) f)) (rs_ife hmod rfl (m_f (decide_eq_false ho) ss_nil)) (seq_nx (ss_cons (par _) (seq_nx ss_nil)))
      · rw [pow_half t (m + 1), if_neg ho, M2.one_mul]
        exact q
theorem id_tab (G : Glo) (t m : D) : runE G (.bi .tuple (.cons (.lc (.bi .tuple (.cons (.lc (.bi .int (.cons (.cmv .eq 5 (.var 4)) .nil)) (.nm 4) (.rng (.cons (.var 2) .nil)) .nop) .nil)) (.nm 5) (.rng (.cons (.var 2) .nil)) .nop) .nil)) [.val t, .val m, .val (.int 2), .no, .no, .no] = .ok (.val (mat .one), [.val t, .val m, .val (.int 2), .no, .no, .no]) := by
  kernel_rfl
theorem run_power {n : Nat} {t : M2} {m : Nat} (ht : t.Lt 3) (hm : m < 128) : ∃ ps, (GG (n + 2)).fn 5 [.val (mat t), .val (.int (m : Int))] = .ok (.val (mat (t.pow m)), ps) := by
  obtain ⟨t', q⟩ := tp_loop (n := n) 7 m 3 100000 t .one (by omega) (by omega) ht (M2.one_lt.mono (by decide)) (by decide)
  rw [M2.one_mul] at q
  rw [fn5]
  refine run_ret0 (G := GG (n + 1)) (n := 6) (np := 2) (B := ir_table_power) rfl ⟨tpE t' 0 (t.pow m), ?_, by simp [tpE]⟩
  show runSs (GG (n + 1)) ir_table_power [.val (mat t), .val (.int (m : Int)), .no, .no, .no, .no] = _
  unfold ir_table_power
  refine ss_cons (rs_asg (x := .val (.int 2)) (ρ1 := [.val (mat t), .val (.int (m : Int)), .no, .no, .no, .no]) (ev_lenv (d := mat t) rfl rfl) rfl) (seq_nx ?_)
  refine ss_cons (f1 := .nx (tpE t m .one)) (rs_asg (x := .val (mat .one)) (ρ1 := [.val (mat t), .val (.int (m : Int)), .val (.int 2), .no, .no, .no]) ?_ rfl) (seq_nx ?_)
  · exact id_tab _ _ _
  · refine ss_cons (f1 := .nx (tpE t' 0 (t.pow m))) ?_ (seq_nx (ss_cons (rs_ret (ev_var rfl)) seq_rt))
    show loopW (Cn (GG (n + 1)) tpC) (Bn (GG (n + 1)) tpB) 100000 (tpE t m .one) = _
    exact q
/-! ### counts -/
def cnts (w : List Nat) : D := .tup [.int (w.count 97 : Nat), .int (w.count 98 : Nat)]
def cntA (g : Gs) (w : List Nat) (m : Nat) : Nat := (g.tab.pow m).a * w.count 97 + (g.tab.pow m).b * w.count 98
def cntB (g : Gs) (w : List Nat) (m : Nat) : Nat := (g.tab.pow m).c * w.count 97 + (g.tab.pow m).d * w.count 98
theorem tab_lt3 (g : Gs) (hg : g.Ok) : g.tab.Lt 3 := by have := tab_lt g hg 1; rw [M2.pow_one] at this; exact this
theorem small_of {p : Nat} (h : p < 1000000) : Gw.small64 (p : Int) = true := by
  unfold Gw.small64
  rw [Bool.and_eq_true]
  exact ⟨decide_eq_true (by omega), decide_eq_true (by omega)⟩
theorem ab_all {w : List Nat} (hw : AB w) {x : D} (hx : x ∈ signs w) : ∃ c, (c = 97 ∨ c = 98) ∧ x = .str [c] := by
  unfold signs at hx
  obtain ⟨c, hc, rfl⟩ := List.mem_map.mp hx
  exact ⟨c, hw c hc, rfl⟩
theorem run_counts_after {n : Nat} {g : Gs} (hg : g.Ok) {w : List Nat} (hw : AB w) (hl : w.length ≤ 1000) {m : Nat} (hm : m < 128) : ∃ ps, Ph (n + 3) 6 [.val (gd g), .val ab, .val (.str w), .val (.int (m : Int))] = .ok (.val (.tup [.int (cntA g w m : Nat), .int (cntB g w m : Nat)]), ps) := by
  obtain ⟨ps1, hp⟩ := run_power (n := n) (tab_lt3 g hg) hm
  refine run_ret0 (G := GG (n + 2)) (n := 9) (np := 4) (B := ir_counts_after) rfl ⟨[.val (gd g), .val ab, .val (.str w), .val (.int (m : Int)), .no, .val (mat (g.tab.pow m)), .val (cnts w), .no, .no], ?_, by simp⟩
  show runSs (GG (n + 2)) ir_counts_after [.val (gd g), .val ab, .val (.str w), .val (.int (m : Int)), .no, .no, .no, .no, .no] = _
  unfold ir_counts_after
  refine ss_cons (rs_exp (x := .val .non) (ρ1 := [.val (gd g), .val ab, .val (.str w), .val (.int (m : Int)), .no, .no, .no, .no, .no]) (ev_cal (rs := [.val (.int (m : Int)), .val (.int 0), .val (.int 1000)]) (es_cons (ev_var rfl) (es_cons ev_cst (es_cons (ev_glb rfl) es_nil))) (run_check_whole (n := n) (by omega) (by omega)))) (seq_nx ?_)
  refine ss_cons (f1 := .nx [.val (gd g), .val ab, .val (.str w), .val (.int (m : Int)), .no, .no, .no, .no, .no]) (rs_ife (x := .val (.bl false)) (t := false) (ev_not (x := .val (.bl true)) (t := true) ?_ rfl) rfl (m_f rfl ss_nil)) (seq_nx ?_)
  · refine ev_gall (ds := signs w) (fun _ => true) (ri_frz (x := .val (.str w)) (ev_var rfl) rfl) rfl (by simp) (fun x hx => ?_) (by simp)
    obtain ⟨c, hc, rfl⟩ := ab_all hw hx
    refine ev_inv (x := .val (.str [c])) (d := ab) (ev_var rfl) rfl ?_
    rcases hc with rfl | rfl <;> rfl
  refine ss_cons (f1 := .nx [.val (gd g), .val ab, .val (.str w), .val (.int (m : Int)), .no, .val (mat (g.tab.pow m)), .val (cnts w), .no, .no]) (rs_unp (x := .val (.tup [mat (g.tab.pow m), cnts w])) (ρ1 := [.val (gd g), .val ab, .val (.str w), .val (.int (m : Int)), .no, .no, .no, .no, .no]) (ev_tup (rs := [.val (mat (g.tab.pow m)), .val (cnts w)]) (es_cons (ρ1 := [.val (gd g), .val ab, .val (.str w), .val (.int (m : Int)), .no, .no, .no, .no, .no]) ?_ (es_cons ?_ es_nil)) (by simp) rfl) rfl) (seq_nx ?_)
  · have q1 : runE (GG (n + 2)) (.cal 3 (.cons (.var 0) (.cons (.var 1) .nil))) [.val (gd g), .val ab, .val (.str w), .val (.int (m : Int)), .no, .no, .no, .no, .no] = .ok (.val (mat g.tab), [.val (gd g), .val ab, .val (.str w), .val (.int (m : Int)), .no, .no, .no, .no, .no]) :=
      ev_cal (rs := [.val (gd g), .val ab]) (es_cons (ev_var rfl) (es_cons (ev_var rfl) es_nil)) call_table
    have q2 : runEs (GG (n + 2)) (.cons (.cal 3 (.cons (.var 0) (.cons (.var 1) .nil))) (.cons (.var 3) .nil)) [.val (gd g), .val ab, .val (.str w), .val (.int (m : Int)), .no, .no, .no, .no, .no] = .ok ([.val (mat g.tab), .val (.int (m : Int))], [.val (gd g), .val ab, .val (.str w), .val (.int (m : Int)), .no, .no, .no, .no, .no]) := es_cons q1 (es_cons (ev_var rfl) es_nil)
    exact ev_calA q2 rfl hp
  · exact ev_cal (rs := [.val ab, .val (.str w)]) (es_cons (ev_var rfl) (es_cons (ev_var rfl) es_nil)) call_counts
  refine ss_cons (rs_ret (ev_bi (rs := [.own (.lst [.int (cntA g w m : Nat), .int (cntB g w m : Nat)])]) (es_cons ?_ es_nil) rfl)) seq_rt
  have c1 : w.count 97 < 1000000 := by have := List.count_le_length (a := 97) (l := w); omega
  have c2 : w.count 98 < 1000000 := by have := List.count_le_length (a := 98) (l := w); omega
  have row : ∀ (p q : Nat), runE (GG (n + 2)) (.gen .sum (.bin .mul (.idv 8 (.var 7)) (.idv 6 (.var 7))) (.nm 7) (.rng (.cons (.lenv 1) .nil)) .nop) [.val (gd g), .val ab, .val (.str w), .val (.int (m : Int)), .no, .val (mat (g.tab.pow m)), .val (cnts w), .no, .val (.tup [.int p, .int q])] = .ok (.val (.int ((p * w.count 97 + q * w.count 98 : Nat) : Int)), [.val (gd g), .val ab, .val (.str w), .val (.int (m : Int)), .no, .val (mat (g.tab.pow m)), .val (cnts w), .no, .val (.tup [.int p, .int q])]) := fun p q => by
    refine ev_gsum (ds := [.int 0, .int 1]) (fun v => match v with
        | .int 0 => ((p * w.count 97 : Nat) : Int)
        | _ => ((q * w.count 98 : Nat) : Int)) (ri_rng (rs := [.val (.int 2)]) (es_cons (ev_lenv (d := ab) rfl rfl) es_nil) rfl) rfl (by simp) (by simp) (fun v hv => ?_) (by simp)
    have hv : v = .int 0 ∨ v = .int 1 := by simpa using hv
    rcases hv with rfl | rfl
    · exact ev_bin (x := .val (.int p)) (y := .val (.int (w.count 97 : Nat))) (ev_idv (d1 := .tup [.int p, .int q]) (d2 := .tup [.int p, .int q]) (y := .val (.int 0)) rfl (ev_var rfl) rfl rfl) (ev_idv (d1 := cnts w) (d2 := cnts w) (y := .val (.int 0)) rfl (ev_var rfl) rfl rfl) (dBin_mulR (small_of c1))
    · exact ev_bin (x := .val (.int q)) (y := .val (.int (w.count 98 : Nat))) (ev_idv (d1 := .tup [.int p, .int q]) (d2 := .tup [.int p, .int q]) (y := .val (.int 1)) rfl (ev_var rfl) rfl rfl) (ev_idv (d1 := cnts w) (d2 := cnts w) (y := .val (.int 1)) rfl (ev_var rfl) rfl rfl) (dBin_mulR (small_of c2))
  refine ev_lcn (ds := [.tup [.int (g.tab.pow m).a, .int (g.tab.pow m).b], .tup [.int (g.tab.pow m).c, .int (g.tab.pow m).d]]) (fun z => match z with
    | .tup [.int p, .int q] => .int (p * w.count 97 + q * w.count 98)
    | _ => .non) (ri_frz (x := .val (mat (g.tab.pow m))) (ev_var rfl) rfl) rfl (by simp) (by simp) (fun z hz => ?_) (by simp [cntA, cntB])
  have hz : z = .tup [.int (g.tab.pow m).a, .int (g.tab.pow m).b] ∨ z = .tup [.int (g.tab.pow m).c, .int (g.tab.pow m).d] := by simpa using hz
  rcases hz with rfl | rfl
  · exact ⟨_, by simp [Rv.d], row _ _⟩
  · exact ⟨_, by simp [Rv.d], row _ _⟩
theorem whole_is (g : Gs) (hg : g.Ok) {w : List Nat} (hw : AB w) (m : Nat) : cntA g w m + cntB g w m = tot (g.lens m) w := by
  obtain ⟨h1, h2⟩ := cols g hg m
  rw [tot_counts _ hw, ← h1, ← h2]
  unfold cntA cntB
  grind
theorem run_length_after {n : Nat} {g : Gs} (hg : g.Ok) {w : List Nat} (hw : AB w) (hl : w.length ≤ 1000) {m : Nat} (hm : m < 128) : ∃ ps, Ph (n + 4) 7 [.val (gd g), .val ab, .val (.str w), .val (.int (m : Int))] = .ok (.val (.int (tot (g.lens m) w : Nat)), ps) := by
  obtain ⟨ps1, hp⟩ := run_counts_after (n := n) hg hw hl hm
  refine run_ret0 (G := GG (n + 3)) (n := 4) (np := 4) (B := ir_length_after) rfl ⟨[.val (gd g), .val ab, .val (.str w), .val (.int (m : Int))], ?_, by simp⟩
  show runSs (GG (n + 3)) ir_length_after [.val (gd g), .val ab, .val (.str w), .val (.int (m : Int))] = _
  unfold ir_length_after
  refine ss_cons (rs_ret (ev_bi (rs := [.val (.tup [.int (cntA g w m : Nat), .int (cntB g w m : Nat)])]) (es_cons (ev_cal (rs := [.val (gd g), .val ab, .val (.str w), .val (.int (m : Int))]) (es_cons (ev_var rfl) (es_cons (ev_var rfl) (es_cons (ev_var rfl) (es_cons (ev_var rfl) es_nil)))) hp) es_nil) ?_)) seq_rt
  rw [← whole_is g hg hw m]
  simp [dBi, dInts, Rv.d]
end GwK

set_option Elab.async false
set_option linter.all false
set_option maxRecDepth 100000
set_option maxHeartbeats 1000000
namespace GwK
open PySem L2 Gw Grow
/-! ### lengths -/
def ld (l : Nat × Nat) : D := .dct [(.s [97], .int (l.1 : Nat)), (.s [98], .int (l.2 : Nat))]
theorem ld_at (l : Nat × Nat) {x : Nat} (h : x = 97 ∨ x = 98) : dIdx (ld l) (.str [x]) = some (.int (val l x : Nat)) := by
  rcases h with rfl | rfl <;> rfl
def rows (g : Gs) (n : Nat) : List D := (List.range (n + 1)).map fun k => ld (g.lens k)
theorem rows_succ (g : Gs) (n : Nat) : rows g (n + 1) = rows g n ++ [ld (g.lens (n + 1))] := by
  unfold rows
  rw [List.range_succ, List.map_append]
  rfl
theorem rows_len (g : Gs) (n : Nat) : (rows g n).length = n + 1 := by simp [rows]
theorem rows_at (g : Gs) {n k : Nat} (h : k ≤ n) : dIdx (.lst (rows g n)) (.int (k : Int)) = some (ld (g.lens k)) := by
  show Gw.atI (rows g n) (k : Int) = _
  unfold Gw.atI Gw.ixN
  rw [rows_len, if_pos (by omega), if_pos (by omega), Option.bind_some, Int.toNat_natCast]
  unfold rows
  rw [List.getElem?_map, List.getElem?_range (by omega)]
  rfl
theorem rows_last (g : Gs) (n : Nat) : dIdx (.lst (rows g n)) (.int (-1)) = some (ld (g.lens n)) := by
  show Gw.atI (rows g n) (-1) = _
  unfold Gw.atI Gw.ixN
  rw [rows_len, if_neg (by omega), if_pos (by omega), Option.bind_some]
  unfold rows
  rw [show ((-1 : Int) + ((n + 1 : Nat) : Int)).toNat = n by omega, List.getElem?_map, List.getElem?_range (by omega)]
  rfl
theorem tot_sum (l : Nat × Nat) (w : List Nat) : ((signs w).map fun x => ((val l (sgn x) : Nat) : Int)).sum = ((tot l w : Nat) : Int) := by
  unfold signs tot
  induction w with
  | nil => rfl
  | cons c w ih =>
    simp only [List.map_cons, List.sum_cons] at ih ⊢
    rw [ih]
    push_cast
    rfl
def ltB : Ss := (.cons (.app 3 (.dc (.var 4) (.gen .sum (.idx (.idv 3 (.neg (.cst (.int 1)))) (.var 6)) (.nm 6) (.frz (.idv 0 (.var 4))) .nop) (.nm 4) (.frz (.var 1)) .nop)) .nil)
def ltE (g : Gs) (m k : Nat) (s : Sl) : Gw.Env := [.val (gd g), .val ab, .val (.int (m : Int)), .own (.lst (rows g k)), .no, s, .no]
theorem lt_turn {G : Glo} {g : Gs} (hg : g.Ok) {m k : Nat} (hk : k < 1000) (x : D) (s : Sl) : ((Res.of (setT (.nm 5) x (ltE g m k s))).bind fun ρ1 => runSs G ltB ρ1) = .ok (.nx (ltE g m (k + 1) (.val x))) := by
  refine body_set (ρ1 := ltE g m k (.val x)) rfl ?_
  refine ss_cons (f1 := .nx (ltE g m (k + 1) (.val x))) (rs_app (l := rows g k) (l' := rows g k) (x := .own (ld (g.lens (k + 1)))) (ρ1 := ltE g m k (.val x)) rfl ?_ rfl (by rw [rows_len]; omega) (by rw [show rows g k ++ [(Rv.own (ld (g.lens (k + 1)))).d] = rows g (k + 1) from (rows_succ g k).symm]; rfl)) (seq_nx ss_nil)
  refine ev_dc1 (ds := signs [97, 98]) (fun x => .s [sgn x]) (fun x => .int (tot (g.lens k) (g.at (sgn x)) : Nat)) (ri_frz (x := .val ab) (ev_var rfl) rfl) rfl (by simp [ltE]) (by simp [signs]) (fun y hy => ?_) rfl
  have key : ∀ c : Nat, (c = 97 ∨ c = 98) → runE G (.gen .sum (.idx (.idv 3 (.neg (.cst (.int 1)))) (.var 6)) (.nm 6) (.frz (.idv 0 (.var 4))) .nop) ((ltE g m k (.val x)).set 4 (.val (.str [c]))) = .ok (.val (.int (tot (g.lens k) (g.at c) : Nat)), (ltE g m k (.val x)).set 4 (.val (.str [c]))) := fun c hc => by
    have hw : AB (g.at c) := by unfold Gs.at; split; exact hg.a; exact hg.b
    have hl : (g.at c).length ≤ 3 := by unfold Gs.at; split; exact hg.la; exact hg.lb
    refine ev_gsum (ds := signs (g.at c)) (fun z => ((val (g.lens k) (sgn z) : Nat) : Int)) (ri_frz (x := .val (.str (g.at c))) (ev_idv (d1 := gd g) (d2 := gd g) (y := .val (.str [c])) rfl (ev_var rfl) rfl (gd_at g hc)) rfl) rfl (by simp [ltE]) (by simp [signs]; omega) (fun z hz => ?_) (tot_sum _ _)
    obtain ⟨e, he, rfl⟩ := ab_all hw hz
    exact ev_idx (x := .val (ld (g.lens k))) (y := .val (.str [e])) (ev_idv (d1 := .lst (rows g k)) (d2 := .lst (rows g k)) (y := .val (.int (-1))) rfl (ev_neg (x := .val (.int 1)) ev_cst rfl) rfl (rows_last g k)) (ev_var rfl) (ld_at _ he)
  rcases mem_ab hy with rfl | rfl
  · exact ⟨.val (.str [97]), .val (.int (tot (g.lens k) (g.at 97) : Nat)), ev_var rfl, rfl, rfl, key 97 (.inl rfl)⟩
  · exact ⟨.val (.str [98]), .val (.int (tot (g.lens k) (g.at 98) : Nat)), ev_var rfl, rfl, rfl, key 98 (.inr rfl)⟩
theorem lt_loop {G : Glo} {g : Gs} (hg : g.Ok) {m : Nat} : ∀ (ds : List D) (k : Nat) (s : Sl), k + ds.length ≤ 1000 → ∃ s', loopF (fun x ρ => (Res.of (setT (.nm 5) x ρ)).bind fun ρ1 => runSs G ltB ρ1) ds (ltE g m k s) = .ok (.nx (ltE g m (k + ds.length) s'))
  | [], k, s, _ => ⟨s, rfl⟩
  | x :: ds, k, s, h => by
    obtain ⟨s', q⟩ := lt_loop (G := G) hg (m := m) ds (k + 1) (.val x) (by simp at h; omega)
    refine ⟨s', ?_⟩
    simp only [loopF, lt_turn hg (m := m) (k := k) (by simp at h; omega) x s, Res.ok_bind, q, List.length_cons]
    rw [show k + 1 + ds.length = k + (ds.length + 1) by omega]
theorem one_row (G : Glo) (a m : D) : runE G (.lst (.cons (.dc (.var 4) (.cst (.int 1)) (.nm 4) (.frz (.var 1)) .nop) .nil)) [.val a, .val ab, .val m, .no, .no, .no, .no] = .ok (.own (.lst [ld (1, 1)]), [.val a, .val ab, .val m, .no, .no, .no, .no]) := by
  kernel_rfl
theorem run_lengths {n : Nat} {g : Gs} (hg : g.Ok) {m : Nat} (hm : m < 900) : ∃ ps, Ph (n + 1) 8 [.val (gd g), .val ab, .val (.int (m : Int))] = .ok (.val (.lst (rows g m)), ps) := by
  obtain ⟨s', q⟩ := lt_loop (G := GG n) hg (m := m) (ranged 0 1 m) 0 .no (by simp [ranged]; omega)
  rw [show (ranged 0 1 m).length = m by simp [ranged], Nat.zero_add] at q
  refine run_ret0 (G := GG n) (n := 7) (np := 3) (B := ir_lengths_table) rfl ⟨[.val (gd g), .val ab, .val (.int (m : Int)), .val (.lst (rows g m)), .no, s', .no], ?_, by simp⟩
  show runSs (GG n) ir_lengths_table [.val (gd g), .val ab, .val (.int (m : Int)), .no, .no, .no, .no] = _
  unfold ir_lengths_table
  refine ss_cons (f1 := .nx (ltE g m 0 .no)) (rs_asg (x := .own (.lst [ld (1, 1)])) (ρ1 := [.val (gd g), .val ab, .val (.int (m : Int)), .no, .no, .no, .no]) (one_row _ _ _) rfl) (seq_nx ?_)
  refine ss_cons (f1 := .nx (ltE g m m s')) (rs_for (ds := ranged 0 1 m) (ρ1 := ltE g m 0 .no) (ri_rng (rs := [.val (.int (m : Int))]) (es_cons (ev_var rfl) es_nil) ?_) q) (seq_nx (ss_cons (rs_ret (ev_own rfl rfl)) seq_rt))
  have : inR (m : Int) = true := by
    unfold inR
    rw [Bool.and_eq_true]
    exact ⟨decide_eq_true (by omega), decide_eq_true (by omega)⟩
  simp only [List.map_cons, List.map_nil, Rv.d, dRange, this, if_true, Int.toNat_natCast]
/-! ### the letter at a place -/
def laB2 : Ss := (.cons (.ife (.cmp .isnone (.var 8) (.cst .non)) (.cons (.ife (.cmv .lt 4 (.idx (.idv 5 (.var 7)) (.var 9))) (.cons (.asg 8 (.var 9)) .nil) (.cons (.aug 4 .sub (.idx (.idv 5 (.var 7)) (.var 9))) .nil)) .nil) .nil) .nil)
def laB : Ss := (.cons (.asg 8 (.cst .non)) (.cons (.fors (.nm 9) (.frz (.var 6)) laB2) (.cons (.ife (.cmp .isnone (.var 8) (.cst .non)) (.cons (.ret (.cst .non)) .nil) .nil) (.cons (.asg 6 (.idv 0 (.var 8))) (.cons (.ife (.cmv .eq 7 (.cst (.int 0))) (.cons (.ret (.var 8)) .nil) .nil) .nil)))))
def odL : Option Nat → D
  | none => .non
  | some x => .str [x]
def laE (g : Gs) (word : D) (m : Nat) (p : Nat) (row : List Nat) (left : Sl) (here : Sl) (s : Sl) : Gw.Env := [.val (gd g), .val ab, .val word, .val (.int (m : Int)), .val (.int (p : Int)), .val (.lst (rows g m)), .val (.str row), left, here, s]
theorem la_keep {G : Glo} {g : Gs} {word : D} {m p : Nat} {row : List Nat} {left : Sl} {x : Nat} : ∀ (ds : List D) (s : Sl), ∃ s', loopF (fun x ρ => (Res.of (setT (.nm 9) x ρ)).bind fun ρ1 => runSs G laB2 ρ1) ds (laE g word m p row left (.val (.str [x])) s) = .ok (.nx (laE g word m p row left (.val (.str [x])) s'))
  | [], s => ⟨s, rfl⟩
  | y :: ds, s => by
    obtain ⟨s', q⟩ := la_keep (G := G) (g := g) (word := word) (m := m) (p := p) (row := row) (left := left) (x := x) ds (.val y)
    refine ⟨s', ?_⟩
    have e : ((Res.of (setT (.nm 9) y (laE g word m p row left (.val (.str [x])) s))).bind fun ρ1 => runSs G laB2 ρ1) = .ok (.nx (laE g word m p row left (.val (.str [x])) (.val y))) := by
      refine body_set (ρ1 := laE g word m p row left (.val (.str [x])) (.val y)) rfl ?_
      exact ss_cons (rs_ife (x := .val (.bl false)) (t := false) (ev_cmp (x := .val (.str [x])) (y := .val .non) (ev_var rfl) ev_cst rfl) rfl (m_f rfl ss_nil)) (seq_nx ss_nil)
    simp only [loopF, e, Res.ok_bind, q]
theorem la_inner {G : Glo} {g : Gs} {word : D} {m : Nat} {row : List Nat} {k : Nat} (hk : k ≤ m) : ∀ (w : List Nat) (p : Nat) (s : Sl), AB w → ∃ s', loopF (fun x ρ => (Res.of (setT (.nm 9) x ρ)).bind fun ρ1 => runSs G laB2 ρ1) (signs w) (laE g word m p row (.val (.int (k : Int))) (.val .non) s) = .ok (.nx (laE g word m (find (g.lens k) w p).2 row (.val (.int (k : Int))) (.val (odL (find (g.lens k) w p).1)) s'))
  | [], p, s, _ => ⟨s, rfl⟩
  | c :: w, p, s, hw => by
    have hc := hw c List.mem_cons_self
    have hw' : AB w := fun x hx => hw x (List.mem_cons_of_mem _ hx)
    have rd : runE G (.idx (.idv 5 (.var 7)) (.var 9)) (laE g word m p row (.val (.int (k : Int))) (.val .non) (.val (.str [c]))) = .ok (.val (.int (val (g.lens k) c : Nat)), laE g word m p row (.val (.int (k : Int))) (.val .non) (.val (.str [c]))) :=
      ev_idx (x := .val (ld (g.lens k))) (y := .val (.str [c])) (ev_idv (d1 := .lst (rows g m)) (d2 := .lst (rows g m)) (y := .val (.int (k : Int))) rfl (ev_var rfl) rfl (rows_at g hk)) (ev_var rfl) (ld_at _ hc)
    have cm : runE G (.cmv .lt 4 (.idx (.idv 5 (.var 7)) (.var 9))) (laE g word m p row (.val (.int (k : Int))) (.val .non) (.val (.str [c]))) = .ok (.val (.bl (decide (p < val (g.lens k) c))), laE g word m p row (.val (.int (k : Int))) (.val .non) (.val (.str [c]))) := by
      refine ev_cmv (d1 := .int (p : Int)) (d := .int (p : Int)) rfl rd rfl ?_
      show some (decide ((p : Int) < ((val (g.lens k) c : Nat) : Int))) = _
      congr 1
      rw [Bool.eq_iff_iff]
      simp only [decide_eq_true_eq]
      omega
    have isn : runE G (.cmp .isnone (.var 8) (.cst .non)) (laE g word m p row (.val (.int (k : Int))) (.val .non) (.val (.str [c]))) = .ok (.val (.bl true), laE g word m p row (.val (.int (k : Int))) (.val .non) (.val (.str [c]))) := ev_cmp (x := .val .non) (y := .val .non) (ev_var rfl) ev_cst rfl
    by_cases hp : p < val (g.lens k) c
    · obtain ⟨s', q⟩ := la_keep (G := G) (g := g) (word := word) (m := m) (p := p) (row := row) (left := .val (.int (k : Int))) (x := c) (signs w) (.val (.str [c]))
      refine ⟨s', ?_⟩
      have e : ((Res.of (setT (.nm 9) (.str [c]) (laE g word m p row (.val (.int (k : Int))) (.val .non) s))).bind fun ρ1 => runSs G laB2 ρ1) = .ok (.nx (laE g word m p row (.val (.int (k : Int))) (.val (.str [c])) (.val (.str [c])))) := by
        refine body_set (ρ1 := laE g word m p row (.val (.int (k : Int))) (.val .non) (.val (.str [c]))) rfl ?_
        refine ss_cons (f1 := .nx (laE g word m p row (.val (.int (k : Int))) (.val (.str [c])) (.val (.str [c])))) (rs_ife isn rfl (m_t rfl ?_)) (seq_nx ss_nil)
        refine ss_cons (f1 := .nx (laE g word m p row (.val (.int (k : Int))) (.val (.str [c])) (.val (.str [c])))) (rs_ife cm rfl (m_t (decide_eq_true hp) ?_)) (seq_nx ss_nil)
        exact ss_cons (rs_asg (x := .val (.str [c])) (ρ1 := laE g word m p row (.val (.int (k : Int))) (.val .non) (.val (.str [c]))) (ev_var rfl) rfl) (seq_nx ss_nil)
      show loopF _ (D.str [c] :: signs w) _ = _
      simp only [loopF, e, Res.ok_bind, q, find, if_pos hp, odL]
    · obtain ⟨s', q⟩ := la_inner (G := G) (g := g) (word := word) (row := row) hk w (p - val (g.lens k) c) (.val (.str [c])) hw'
      refine ⟨s', ?_⟩
      have e : ((Res.of (setT (.nm 9) (.str [c]) (laE g word m p row (.val (.int (k : Int))) (.val .non) s))).bind fun ρ1 => runSs G laB2 ρ1) = .ok (.nx (laE g word m (p - val (g.lens k) c) row (.val (.int (k : Int))) (.val .non) (.val (.str [c])))) := by
        refine body_set (ρ1 := laE g word m p row (.val (.int (k : Int))) (.val .non) (.val (.str [c]))) rfl ?_
        refine ss_cons (f1 := .nx (laE g word m (p - val (g.lens k) c) row (.val (.int (k : Int))) (.val .non) (.val (.str [c])))) (rs_ife isn rfl (m_t rfl ?_)) (seq_nx ss_nil)
        refine ss_cons (f1 := .nx (laE g word m (p - val (g.lens k) c) row (.val (.int (k : Int))) (.val .non) (.val (.str [c])))) (rs_ife cm rfl (m_f (decide_eq_false hp) ?_)) (seq_nx ss_nil)
        refine ss_cons (rs_aug (d := .int (p : Int)) (d2 := .int (p : Int)) (d1 := .int ((p - val (g.lens k) c : Nat) : Int)) rfl rd ?_ rfl rfl) (seq_nx ss_nil)
        show some (D.int ((p : Int) - ((val (g.lens k) c : Nat) : Int))) = _
        rw [show (p : Int) - ((val (g.lens k) c : Nat) : Int) = ((p - val (g.lens k) c : Nat) : Int) by omega]
      show loopF _ (D.str [c] :: signs w) _ = _
      simp only [loopF, e, Res.ok_bind, q, find, if_neg hp]
def downL : Nat → List D
  | 0 => [.int 0]
  | n + 1 => .int ((n + 1 : Nat) : Int) :: downL n
theorem down_is : ∀ n : Nat, ranged (n : Int) (-1) (n + 1) = downL n
  | 0 => rfl
  | n + 1 => by
    have ih := down_is n
    unfold ranged at ih ⊢
    rw [List.range_succ_eq_map, List.map_cons, List.map_map]
    unfold downL
    rw [← ih]
    congr 1
    simp
    intro a _
    omega
theorem la_outer {G : Glo} {g : Gs} (hg : g.Ok) {word : D} {m : Nat} : ∀ (k : Nat) (w : List Nat) (p : Nat) (l h s : Sl), k ≤ m → AB w → ∃ ρ, loopF (fun x ρ => (Res.of (setT (.nm 7) x ρ)).bind fun ρ1 => runSs G laB ρ1) (downL k) (laE g word m p w l h s) = .ok (.rt (.val (odL (g.letter k w p))) ρ) ∧ 5 ≤ ρ.length := by
  have one : ∀ (k : Nat) (w : List Nat) (p : Nat) (l h s : Sl), k ≤ m → AB w → ∃ s', ((Res.of (setT (.nm 7) (.int (k : Int)) (laE g word m p w l h s))).bind fun ρ1 => runSs G laB ρ1) = (match find (g.lens k) w p with
      | (none, q) => .ok (.rt (.val .non) (laE g word m q w (.val (.int (k : Int))) (.val .non) s'))
      | (some x, q) => if k = 0 then .ok (.rt (.val (.str [x])) (laE g word m q (g.at x) (.val (.int (k : Int))) (.val (.str [x])) s')) else .ok (.nx (laE g word m q (g.at x) (.val (.int (k : Int))) (.val (.str [x])) s'))) := fun k w p l h s hk hw => by
    obtain ⟨s', q⟩ := la_inner (G := G) (g := g) (word := word) (row := w) hk w p s hw
    refine ⟨s', body_set (ρ1 := laE g word m p w (.val (.int (k : Int))) h s) rfl ?_⟩
    refine ss_cons (f1 := .nx (laE g word m p w (.val (.int (k : Int))) (.val .non) s)) (rs_asg (x := .val .non) (ρ1 := laE g word m p w (.val (.int (k : Int))) h s) ev_cst rfl) (seq_nx ?_)
    refine ss_cons (rs_for (ds := signs w) (ρ1 := laE g word m p w (.val (.int (k : Int))) (.val .non) s) (ri_frz (x := .val (.str w)) (ev_var rfl) rfl) q) (seq_nx ?_)
    cases e : find (g.lens k) w p with
    | mk o r =>
      cases o with
      | none =>
        refine ss_cons (f1 := .rt (.val .non) (laE g word m r w (.val (.int (k : Int))) (.val .non) s')) (rs_ife (x := .val (.bl true)) (t := true) (ev_cmp (x := .val .non) (y := .val .non) (ev_var rfl) ev_cst rfl) rfl (m_t rfl (ss_cons (rs_ret ev_cst) seq_rt))) seq_rt
      | some x =>
        have hx : x = 97 ∨ x = 98 := by
          have : p < tot (g.lens k) w := by
            by_cases hh : p < tot (g.lens k) w
            · exact hh
            · have := find_none (l := g.lens k) (w := w) (p := p) (by omega)
              rw [e] at this; cases this
          obtain ⟨y, r', h1, h2, _⟩ := find_some this
          rw [e] at h1
          cases h1
          exact hw _ h2
        refine ss_cons (f1 := .nx (laE g word m r w (.val (.int (k : Int))) (.val (.str [x])) s')) (rs_ife (x := .val (.bl false)) (t := false) (ev_cmp (x := .val (.str [x])) (y := .val .non) (ev_var rfl) ev_cst rfl) rfl (m_f rfl ss_nil)) (seq_nx ?_)
        refine ss_cons (f1 := .nx (laE g word m r (g.at x) (.val (.int (k : Int))) (.val (.str [x])) s')) (rs_asg (x := .val (.str (g.at x))) (ρ1 := laE g word m r w (.val (.int (k : Int))) (.val (.str [x])) s') (ev_idv (d1 := gd g) (d2 := gd g) (y := .val (.str [x])) rfl (ev_var rfl) rfl (gd_at g hx)) rfl) (seq_nx ?_)
        have c0 : runE G (.cmv .eq 7 (.cst (.int 0))) (laE g word m r (g.at x) (.val (.int (k : Int))) (.val (.str [x])) s') = .ok (.val (.bl (decide (k = 0))), laE g word m r (g.at x) (.val (.int (k : Int))) (.val (.str [x])) s') := by
          refine ev_cmv (d1 := .int (k : Int)) (d := .int (k : Int)) (x := .val (.int 0)) rfl ev_cst rfl ?_
          show some ((k : Int) == 0) = _
          congr 1
          rw [Bool.eq_iff_iff]
          simp only [beq_iff_eq, decide_eq_true_eq]
          omega
        by_cases hz : k = 0
        · simp only [hz, if_true] at c0 ⊢
          exact ss_cons (f1 := .rt (.val (.str [x])) (laE g word m r (g.at x) (.val (.int ((0 : Nat) : Int))) (.val (.str [x])) s')) (rs_ife c0 rfl (m_t rfl (ss_cons (rs_ret (ev_var rfl)) seq_rt))) seq_rt
        · simp only [hz, if_false] at c0 ⊢
          exact ss_cons (rs_ife c0 rfl (m_f rfl ss_nil)) (seq_nx ss_nil)
  intro k
  induction k with
  | zero =>
    intro w p l h s hk hw
    obtain ⟨s', q⟩ := one 0 w p l h s hk hw
    cases e : find (g.lens 0) w p with
    | mk o r =>
      rw [e] at q
      cases o with
      | none =>
        simp only at q
        refine ⟨laE g word m r w (.val (.int ((0 : Nat) : Int))) (.val .non) s', ?_, by simp [laE]⟩
        simp only [downL, loopF]; rw [show (D.int 0) = D.int ((0 : Nat) : Int) from rfl, q]; simp only [Res.ok_bind, Gs.letter, e, odL]
      | some x =>
        simp only [if_true] at q
        refine ⟨laE g word m r (g.at x) (.val (.int ((0 : Nat) : Int))) (.val (.str [x])) s', ?_, by simp [laE]⟩
        simp only [downL, loopF]; rw [show (D.int 0) = D.int ((0 : Nat) : Int) from rfl, q]; simp only [Res.ok_bind, Gs.letter, e, odL]
  | succ k ih =>
    intro w p l h s hk hw
    obtain ⟨s', q⟩ := one (k + 1) w p l h s hk hw
    cases e : find (g.lens (k + 1)) w p with
    | mk o r =>
      rw [e] at q
      cases o with
      | none =>
        simp only at q
        refine ⟨laE g word m r w (.val (.int ((k + 1 : Nat) : Int))) (.val .non) s', ?_, by simp [laE]⟩
        simp only [downL, loopF, q, Res.ok_bind, Gs.letter, e, odL]
      | some x =>
        simp only [Nat.succ_ne_zero, if_false] at q
        have hx : AB (g.at x) := by unfold Gs.at; split; exact hg.a; exact hg.b
        obtain ⟨ρ, q2, q3⟩ := ih (g.at x) r (.val (.int ((k + 1 : Nat) : Int))) (.val (.str [x])) s' (by omega) hx
        exact ⟨ρ, by simp only [downL, loopF, q, Res.ok_bind, q2, Gs.letter, e], q3⟩
theorem fn8 (n : Nat) : (GG (n + 2)).fn 8 = Ph (n + 1 + 1) 8 := rfl
theorem run_letter {n : Nat} {g : Gs} (hg : g.Ok) {w : List Nat} (hw : AB w) {m p : Nat} (hm : m < 128) (hp : p ≤ 10 ^ 60) : ∃ ps, Ph (n + 3) 9 [.val (gd g), .val ab, .val (.str w), .val (.int (m : Int)), .val (.int (p : Int))] = .ok (.val (odL (g.letter m w p)), ps) := by
  obtain ⟨ps1, hl⟩ := run_lengths (n := n + 1) hg (m := m) (by omega)
  obtain ⟨ρ, q, q2⟩ := la_outer (G := GG (n + 2)) hg (word := .str w) (m := m) m w p .no .no .no (Nat.le_refl _) hw
  refine run_ret0 (G := GG (n + 2)) (n := 10) (np := 5) (B := ir_letter_after) rfl ⟨ρ, ?_, q2⟩
  show runSs (GG (n + 2)) ir_letter_after [.val (gd g), .val ab, .val (.str w), .val (.int (m : Int)), .val (.int (p : Int)), .no, .no, .no, .no, .no] = _
  unfold ir_letter_after
  refine ss_cons (rs_exp (x := .val .non) (ρ1 := [.val (gd g), .val ab, .val (.str w), .val (.int (m : Int)), .val (.int (p : Int)), .no, .no, .no, .no, .no]) (ev_cal (rs := [.val (.int (m : Int)), .val (.int 0), .val (.int 1000)]) (es_cons (ev_var rfl) (es_cons ev_cst (es_cons (ev_glb rfl) es_nil))) (run_check_whole (n := n) (by omega) (by omega)))) (seq_nx ?_)
  have hp2 : ((p : Nat) : Int) ≤ 1000000000000000000000000000000000000000000000000000000000000 := by omega
  have hpw : dBin .pow (.int 10) (.int 60) = some (.val (.int 1000000000000000000000000000000000000000000000000000000000000)) := by rfl
  have qc : (GG (n + 2)).fn 1 [.val (.int (p : Int)), .val (.int 0), .val (.int 1000000000000000000000000000000000000000000000000000000000000)] = .ok (.val .non, [.val (.int (p : Int)), .val (.int 0), .val (.int 1000000000000000000000000000000000000000000000000000000000000)]) := run_check_whole (n := n) (by omega) hp2
  refine ss_cons (rs_exp (x := .val .non) (ρ1 := [.val (gd g), .val ab, .val (.str w), .val (.int (m : Int)), .val (.int (p : Int)), .no, .no, .no, .no, .no]) (ev_calA (rs := [.val (.int (p : Int)), .val (.int 0), .val (.int 1000000000000000000000000000000000000000000000000000000000000)]) (es_cons (ev_var rfl) (es_cons ev_cst (es_cons (ev_bin (x := .val (.int 10)) (y := .val (.int 60)) ev_cst ev_cst hpw) es_nil))) rfl qc)) (seq_nx ?_)
  have qf : (GG (n + 2)).fn 8 [.val (gd g), .val ab, .val (.int (m : Int))] = .ok (.val (.lst (rows g m)), ps1) := by
    rw [fn8]
    exact hl
  have qe : runE (GG (n + 2)) (.cal 8 (.cons (.var 0) (.cons (.var 1) (.cons (.var 3) .nil)))) [.val (gd g), .val ab, .val (.str w), .val (.int (m : Int)), .val (.int (p : Int)), .no, .no, .no, .no, .no] = .ok (.val (.lst (rows g m)), [.val (gd g), .val ab, .val (.str w), .val (.int (m : Int)), .val (.int (p : Int)), .no, .no, .no, .no, .no]) :=
    ev_calA (rs := [.val (gd g), .val ab, .val (.int (m : Int))]) (es_cons (ev_var rfl) (es_cons (ev_var rfl) (es_cons (ev_var rfl) es_nil))) rfl qf
  refine ss_cons (rs_asg (x := .val (.lst (rows g m))) (ρ1 := [.val (gd g), .val ab, .val (.str w), .val (.int (m : Int)), .val (.int (p : Int)), .no, .no, .no, .no, .no]) qe rfl) (seq_nx ?_)
  refine ss_cons (f1 := .nx (laE g (.str w) m p w .no .no .no)) (rs_asg (x := .val (.str w)) (ρ1 := [.val (gd g), .val ab, .val (.str w), .val (.int (m : Int)), .val (.int (p : Int)), .val (.lst (rows g m)), .no, .no, .no, .no]) (ev_var rfl) rfl) (seq_nx ?_)
  refine ss_cons (f1 := .rt (.val (odL (g.letter m w p))) ρ) (rs_for (ds := downL m) (ρ1 := laE g (.str w) m p w .no .no .no) (ri_rng (rs := [.val (.int (m : Int)), .val (.int (-1)), .val (.int (-1))]) (es_cons (ev_var rfl) (es_cons (ev_neg (x := .val (.int 1)) ev_cst rfl) (es_cons (ev_neg (x := .val (.int 1)) ev_cst rfl) es_nil))) ?_) q) seq_rt
  have e1 : inR (m : Int) = true := by
    unfold inR
    rw [Bool.and_eq_true]
    exact ⟨decide_eq_true (by omega), decide_eq_true (by omega)⟩
  have e2 : inR (-1) = true := by decide
  simp only [List.map_cons, List.map_nil, Rv.d, dRange, e1, e2, Bool.and_self, if_true, decide_true]
  rw [← down_is, show ((m : Int) - -1).toNat = m + 1 by omega]
end GwK

set_option Elab.async false
set_option linter.all false
set_option maxRecDepth 100000
set_option maxHeartbeats 4000000
/-! The value layer: the end, with the tables of the defs that hold generator expressions. -/
namespace Gw
open PySem PySem.Spec PyProof.Rows L2
/-- the tables of the defs are empty -/
def TabsIn (q : Program) (K : PySem.W.Frag) (mg : Str → Option Value) (h : Heap) : Prop := ∀ (x : Str) (f c P : Addr) (o : Obj) (fd : FuncData) (e : Value) (dd : Option Addr) (vs : Array Value) (sl : Array (Option Value)), ((recsOf q).any fun e => e.name == x) = true → mg x = some (.ref f) → K.lookup f = some o → o.data = .func fd → fd.code = .ref c →
  K.lookup c = some ⟨e, dd, .fields vs, sl⟩ → vs[11]? = some (.ref P) → PySem.W.CodeHd h c P ∧ h.get? P = some { cls := .none, data := .fields #[] }
theorem walk_ofG {l : PySem.W.OpenLaw} {n k : Nat} {q : Program} {loose : List Str} {XP : (Str → Option Value) → Heap → Prop} {YP : World → Heap → Prop} {d : DefRec} {K : Params → PySem.W.Frag} {CX : World → CXT} {x : Str}
    (hn : l.most = some n) (hn2 : n ≤ sizeLine) (hdf : d.params.defaults = []) (hr : Room k callerA) (hY : ∀ (w : World) (h : Heap), YP w h → (K w.params).In h)
    (F : ∀ (w : World) (mg : Str → Option Value) (fa : Addr) (h : Heap), (K w.params).In h → h.Ns mainGlobals mg → mg d.name = some (.ref fa) → TabsIn q (K w.params) mg h → LamX.LawAtS l w (K w.params) (CX w) k n x mg fa h)
    (hCX : ∀ (w : World) (H : Hp) (s : Shared) (e : Value) (s' : Shared), CX w [] H s (fun _ _ _ => False) e s' → False) :
    PySem.W.WalkO q loose XP YP l.row.toRowW d [] (fun f vs => PySem.call f vs) := by
  refine Att.attach_callB hn hdf fun w s₀ s₁ mg mb fa o pm cd doc a vs ns G Y ho hd hcd hmg hobj hints hlen hbits hg => ?_
  have KX := hY w _ Y
  have tin : TabsIn q (K w.params) mg s₁.heap := fun x f c P o1 fd1 e dd vs1 sl hrec hmx k1 k2 k3 k4 k5 => by
    obtain ⟨dL, hm, hn1⟩ := List.any_eq_true.mp hrec
    have hn2 : dL.name = x := beq_iff_eq.mp hn1
    obtain ⟨a', o', fd', c', P', h1, h2, h3, h4, h5, h6⟩ := G.T.tab dL hm
    rw [hn2, hmx] at h1
    cases h1
    have g1 := KX _ _ k1
    rw [g1] at h2
    cases h2
    rw [k2] at h3
    cases h3
    rw [k3] at h4
    cases h4
    have h6' := h6
    obtain ⟨⟨oc, vc, e1, _, e3, e4⟩, hP⟩ := h6
    have g2 := KX _ _ k4
    rw [g2] at e1
    cases e1
    cases e3
    rw [k5] at e4
    cases e4
    exact ⟨PySem.W.CodeHd.of h5 h6', hP⟩
  obtain ⟨fd, cs, sp, hT, nT, C, hb, hsp, hF⟩ := F w mg fa _ KX G.T.g hmg tin
  exact LamX.law_callTs KX G.T.g G.T.b G.T.builtins G.T.nolimit hg hT nT C G.T.bmain hobj hints (Nat.le_trans hlen hn2) hr hF hb (fun H hH hS => hsp H a ns hlen hbits hH hS) fun H e s' => hCX w H s₁ e s'
theorem start_okG {K : PySem.W.Frag} {cs : List (Addr × Addr)} (H : Hp) (a : Addr) (ns : List Int) (hl : ns.length ≤ 63) (hT : ∀ p ∈ cs, H p.2 = some (.tbl #[])) (hS : SqL K H a (ns.map V.int)) : spL K (cs.map (·.2)) [.ref a] H (fun v _ => v = .bl true) fun _ _ _ => False := by
  refine ⟨a, ns, rfl, .scr ?_, fun t ht => ?_, hl, fun _ => rfl⟩
  · rcases hS with h | h
    · exact .inl ⟨h, fun m => m⟩
    · exact .inr h
  · obtain ⟨p, hp, rfl⟩ := List.mem_map.mp ht
    exact ⟨#[], hT p hp, trivial⟩
theorem TabB_of {base : Heap} {mg : Str → Option Value} {c P : Addr} (h : LamX.TabB base mg c P) : GxR.TabB base mg c P := ⟨h.code, h.bm, h.gP⟩
end Gw

set_option Elab.async false
set_option linter.all false
/-! the module's constants -/
namespace Gw
open PySem L2
def cstIs : Value → Option D
  | .int i _ => some (.int i)
  | .str s _ => some (.str s.cps.toList)
  | _ => none
theorem cst_ok {K : PySem.W.Frag} {mg : Str → Option Value} {nm : Str} {u : Value} {d : D} (h : cstIs u = some d) (hm : mg nm = some u) (hd : (nm == ("__debug__" : Str)) = false) :
    (nm == ("__debug__" : Str)) = false ∧ ∃ (u : Value) (v : V), mg nm = some u ∧ RelV v u ∧ ∀ M H, Rp K M H v d := by
  refine ⟨hd, u, ?_⟩
  cases u <;> simp [cstIs] at h
  · subst h; exact ⟨.int _, hm, ⟨_, rfl⟩, fun _ _ => .int _⟩
  · rename_i s t
    subst h
    refine ⟨.str s, hm, ⟨_, rfl⟩, fun M H => ?_⟩
    have e : s = mkS s.cps.toList := by cases s; simp [mkS]
    have q : Rp K M H (.str (mkS s.cps.toList)) (.str s.cps.toList) := .str _
    rw [← e] at q
    exact q
end Gw

set_option Elab.async false
set_option linter.all false
set_option maxRecDepth 100000
set_option maxHeartbeats 1000000
namespace GwK
open PySem L2 Gw Grow
abbrev GL : Glo := GG 10
theorem f11 : GL.fn 11 = runF (GG 9) 3 2 rollB := rfl
theorem f12 : GL.fn 12 = runF (GG 9) 4 3 (wordB 11) := rfl
theorem m11 : (GG 9).fn 11 = runF (GG 8) 3 2 rollB := rfl
theorem dice_ok : ∀ c, Phi dfs cst 9 10 [.val (.int c)] = .ok (.own (diceD c), [.val (.int c)]) := fun c => run_dice (GG 8) c
def Sv (s : Sl) : Prop := s = .no ∨ ∃ d, s = .val d
section
variable {G : Glo} {ρ ρ1 : Gw.Env} {c elt : Gw.E} {it : Gw.I}
/-- over one name, whatever it held -/
theorem ev_lcv {v : Nat} {ds : List D} (p : D → Bool) (f : D → D) (h1 : runI G it ρ = .ok (ds, ρ1, none)) (h2 : Sv (ρ1.at (v + 1))) (hv : v + 1 < ρ1.length) (hl : ds.length ≤ 16777216)
    (hp : ∀ x ∈ ds, (if c.isNop then (.ok (true, ρ1.set (v + 1) (.val x)) : Res (Bool × Gw.Env)) else (runE G c (ρ1.set (v + 1) (.val x))).bind fun p => truR p.1 p.2) = .ok (p x, ρ1.set (v + 1) (.val x)))
    (hf : ∀ x ∈ ds, p x = true → ∃ r : Rv, r.d = f x ∧ runE G elt (ρ1.set (v + 1) (.val x)) = .ok (r, ρ1.set (v + 1) (.val x))) : runE G (.lc elt (.nm (v + 1)) it c) ρ = .ok (.own (.lst ((ds.filter p).map f)), ρ1.set (v + 1) .no) := by
  have hww : ∀ x, wipe (ρ1.set (v + 1) (.val x)) [v + 1] = ρ1.set (v + 1) .no := fun x => by
    show (ρ1.set (v + 1) (.val x)).set (v + 1) .no = _
    rw [List.set_set]
  refine ev_lc h1 ?_ ?_
  · rcases h2 with h2 | ⟨d, h2⟩
    · simp only [T.slots, wipable, List.all_cons, List.all_nil, Bool.and_true, h2, decide_eq_true hv]
    · simp only [T.slots, wipable, List.all_cons, List.all_nil, Bool.and_true, h2, decide_eq_true hv]
  · simp only [T.slots]
    show loopC _ ds [] (ρ1.set (v + 1) .no) = _
    have e : (ds.filter p).map f = ds.flatMap fun x => if p x then [f x] else [] := by
      clear hp hf hl h1
      induction ds with
      | nil => rfl
      | cons x ds ih =>
        rw [List.flatMap_cons, ← ih]
        cases hp : p x <;> simp [List.filter_cons, hp]
    rw [e, ← List.nil_append (ds.flatMap _)]
    refine loopC_pure _ ds [] (fun x hx => ?_) ?_
    · have hs : setT (.nm (v + 1)) x (ρ1.set (v + 1) .no) = some (ρ1.set (v + 1) (.val x)) := by
        simp only [setT, Env.put, List.set_set]
      refine turnC_ok hs (hp x hx) ?_
      cases hpx : p x with
      | false => simp only [hww, Bool.false_eq_true, if_false, sel]
      | true =>
        obtain ⟨r, hr, hrun⟩ := hf x hx hpx
        simp only [hrun, Res.ok_bind, hww, hr, if_true, sel]
    · rw [← e, List.length_map]
      have := List.length_filter_le p ds
      simp; omega
end
theorem str_ne (w : List Nat) : dCmp .ne (.str w) (.str w) = some false := by simp [dCmp, dEqO, D.scal, D.flat, D.eqb]
/-- the law's slots -/
def en (ns : List Int) (d : D) (gs : Sl) (w f s tb one both pw row wh pl la rw ed le tu ta : Sl) : Gw.Env := [.val (.scr ns), .own d, gs, w, f, s, tb, one, both, pw, row, wh, pl, la, rw, ed, le, tu, ta]
theorem roll_word {ns : List Int} {d : D} (hd : IsDice d) {ρ : List Sl} : ∃ (w : List Nat) (d' : D), IsDice d' ∧ w.length ≤ 3 ∧ AB w ∧ runE GL (.car 12 1 (.cons (.cst (.int 3)) (.cons (.cst (.str [97, 98])) .nil))) (.val (.scr ns) :: .own d :: ρ) = .ok (.val (.str w), .val (.scr ns) :: .own d' :: ρ) := by
  obtain ⟨w, d', h1, h2, h3, h4⟩ := run_word (G := GG 9) (R := 11) m11 hd (m := 3) (ls := [97, 98]) (by decide) (by decide) (by decide) (by decide)
  refine ⟨w, d', h1, by omega, fun c hc => by simpa using h3 c hc, ?_⟩
  exact ev_carO (d := d) (d1 := d) (d2 := d') (r := .val (.str w)) (rs := [.val (.int 3), .val (.str [97, 98])]) (ps := [.val (.int 3), .val (.str [97, 98])]) rfl (es_cons ev_cst (es_cons ev_cst es_nil)) rfl h4 rfl
theorem roll_num {ns : List Int} {d : D} (hd : IsDice d) {ρ : List Sl} {e : Gw.E} {m : Nat} (h0 : 0 < m) (hw : wideDiv (m : Int) = true) (he : ∀ d, runE GL e (.val (.scr ns) :: .own d :: ρ) = .ok (.val (.int (m : Int)), .val (.scr ns) :: .own d :: ρ)) : ∃ (k : Nat) (d' : D), IsDice d' ∧ k < m ∧ runE GL (.car 11 1 (.cons e .nil)) (.val (.scr ns) :: .own d :: ρ) = .ok (.val (.int (k : Int)), .val (.scr ns) :: .own d' :: ρ) := by
  obtain ⟨r, d', h1, h2, h3, h4⟩ := run_rollW (GG 9) hd (m := (m : Int)) (by omega) hw
  obtain ⟨k, rfl⟩ := Int.eq_ofNat_of_zero_le h2
  refine ⟨k, d', h1, by omega, ?_⟩
  exact ev_carO (d := d) (d1 := d) (d2 := d') (r := .val (.int (k : Int))) (rs := [.val (.int (m : Int))]) (ps := [.val (.int (m : Int))]) rfl (es_cons (he d) es_nil) rfl h4 rfl
theorem tup_ne (a b c d : Nat) (h1 : a = c) (h2 : b = d) : dCmp .ne (.tup [.int (a : Int), .int (b : Int)]) (.tup [.int (c : Int), .int (d : Int)]) = some false := by
  subst h1 h2
  simp [dCmp, dEqO, D.scal, D.flat, D.shaped, D.plain, D.plains, D.depth, D.depths, D.eqb, D.eqbs]
theorem mat_ne (x : M2) : dCmp .ne (mat x) (mat x) = some false := by
  simp [mat, dCmp, dEqO, D.scal, D.flat, D.shaped, D.plain, D.plains, D.depth, D.depths, D.eqb, D.eqbs]
theorem pow_call {n : Nat} {g : Gs} (hg : g.Ok) {m : Nat} (hm : m < 128) : ∃ ps, (GG (n + 2)).fn 5 [.val (mat g.tab), .val (.int (m : Int))] = .ok (.val (mat (g.tab.pow m)), ps) := run_power (tab_lt3 g hg) hm
theorem mul_big {p q : Nat} (hp : p < 2 ^ 400) (hq : q < 2 ^ 400) : dBin .mul (.int (p : Int)) (.int (q : Int)) = some (.val (.int ((p * q : Nat) : Int))) := by
  rw [dBin_mulW]
  · rfl
  · unfold wideMul
    refine decide_eq_true ?_
    simp only [Int.natAbs_natCast]
    have e1 : p.log2 ≤ 400 := by
      by_cases h0 : p = 0
      · subst h0; simp
      · have := (Nat.log2_lt h0).mpr hp; omega
    have e2 : q.log2 ≤ 400 := by
      by_cases h0 : q = 0
      · subst h0; simp
      · have := (Nat.log2_lt h0).mpr hq; omega
    omega
theorem tot_small (g : Gs) (hg : g.Ok) {w : List Nat} (hw : w.length ≤ 3) {m : Nat} (hm : m < 100) : tot (g.lens m) w ≤ 3 ^ 100 := by
  obtain ⟨h1, h2⟩ := lens_le g hg m
  have e := tot_le h1 h2 w
  have e2 : w.length * 3 ^ m ≤ 3 * 3 ^ m := Nat.mul_le_mul_right _ hw
  have e3 : 3 * 3 ^ m = 3 ^ (m + 1) := by rw [Nat.pow_succ, Nat.mul_comm]
  have e4 : 3 ^ (m + 1) ≤ 3 ^ 100 := Nat.pow_le_pow_right (by decide) (by omega)
  omega
theorem wide_of {m : Nat} (h : m ≤ 3 ^ 100) : wideDiv (m : Int) = true := by
  unfold wideDiv
  refine decide_eq_true ?_
  simp only [Int.natAbs_natCast]
  by_cases h0 : m = 0
  · subst h0; simp
  · have h1 : m < 2 ^ 200 := by
      have : (3 : Nat) ^ 100 < 2 ^ 200 := by decide
      omega
    have := (Nat.log2_lt h0).mpr h1; omega
/-- letters that are left -/
theorem flat_strs (g : Gs) : ∀ e : List Nat, dStrs (e.map fun c => D.str (g.at c)) = some (e.map g.at)
  | [] => rfl
  | c :: e => by simp only [List.map_cons, dStrs, flat_strs g e, Option.map_some]
end GwK

set_option Elab.async false
set_option linter.all false
set_option maxRecDepth 100000
set_option maxHeartbeats 1000000
/-! The small syntax as equations to rewrite with, no binder in them: what is left to do behind a part is a name of its own. Plain Lean. -/
namespace Gw
theorem at_0 (s : Sl) (ρ : Env) : Env.at (s :: ρ) 0 = s := id rfl
theorem at_s (s : Sl) (ρ : Env) (i : Nat) : Env.at (s :: ρ) (i + 1) = Env.at ρ i := id rfl
theorem put_s (ρ : Env) (i : Nat) (s : Sl) : Env.put ρ (i + 1) s = some (ρ.set (i + 1) s) := id rfl
theorem put_0v (d : D) (ρ : Env) (s : Sl) : Env.put (.val d :: ρ) 0 s = some (s :: ρ) := id rfl
theorem put_0o (d : D) (ρ : Env) (s : Sl) : Env.put (.own d :: ρ) 0 s = some (s :: ρ) := id rfl
theorem put_0n (ρ : Env) (s : Sl) : Env.put (.no :: ρ) 0 s = some (s :: ρ) := id rfl
theorem d_val {d : D} : (Sl.val d).d? = some d := id rfl
theorem d_own {d : D} : (Sl.own d).d? = some d := id rfl
theorem d_ref {d : D} : (Sl.ref d).d? = some d := id rfl
theorem rvd_val {d : D} : (Rv.val d).d = d := id rfl
theorem rvd_own {d : D} : (Rv.own d).d = d := id rfl
theorem rvs_val {d : D} : (Rv.val d).sl = .val d := id rfl
theorem rvs_own {d : D} : (Rv.own d).sl = .own d := id rfl
theorem tru_bl {b : Bool} : dTruth (.bl b) = some b := id rfl
theorem bin_add {p q : Int} : dBin .add (.int p) (.int q) = some (.val (.int (p + q))) := id rfl
theorem bin_sub {p q : Int} : dBin .sub (.int p) (.int q) = some (.val (.int (p - q))) := id rfl
/-! what is left -/
def kOf : Option Rv → Env → Res (Rv × Env) | some r, ρ => .ok (r, ρ) | none, _ => .stuck
def kOfD : Option D → Env → Res (Rv × Env) | some r, ρ => .ok (.val r, ρ) | none, _ => .stuck
def kOfB : Option Bool → Env → Res (Rv × Env) | some r, ρ => .ok (.val (.bl r), ρ) | none, _ => .stuck
theorem k_of {r : Rv} {ρ : Env} : kOf (some r) ρ = .ok (r, ρ) := id rfl
theorem k_ofD {r : D} {ρ : Env} : kOfD (some r) ρ = .ok (.val r, ρ) := id rfl
theorem k_ofB {r : Bool} {ρ : Env} : kOfB (some r) ρ = .ok (.val (.bl r), ρ) := id rfl
theorem kOf_eq {o : Option Rv} {ρ : Env} : (Res.of o).bind (fun r => .ok (r, ρ)) = kOf o ρ := by cases o <;> rfl
theorem kOfD_eq {o : Option D} {ρ : Env} : (Res.of o).bind (fun r => .ok (.val r, ρ)) = kOfD o ρ := by cases o <;> rfl
theorem kOfB_eq {o : Option Bool} {ρ : Env} : (Res.of o).bind (fun r => .ok (.val (.bl r), ρ)) = kOfB o ρ := by cases o <;> rfl
def kVar (i : Nat) (ρ : Env) : Sl → Res (Rv × Env) | .val d => .ok (.val d, ρ) | .own d => .ok (.val d, ρ.set i (.val d)) | _ => .stuck
theorem k_var_v {i : Nat} {ρ : Env} {d : D} : kVar i ρ (.val d) = .ok (.val d, ρ) := id rfl
theorem k_var_o {i : Nat} {ρ : Env} {d : D} : kVar i ρ (.own d) = .ok (.val d, ρ.set i (.val d)) := id rfl
section
variable {G : Glo} {ρ ρ1 : Env} {a b c e k : E} {es : Es} {x y z r : Rv} {d : D} {i j : Nat} {t : Bool} {rs : List Rv}
theorem sE_var : runE G (.var i) ρ = kVar i ρ (ρ.at i) := by rw [runE]; cases ρ.at i <;> rfl
theorem sE_cst : runE G (.cst d) ρ = .ok (.val d, ρ) := by rw [runE]
theorem sE_glb : runE G (.glb i) ρ = kOfD (G.cst i) ρ := by rw [runE]; exact kOfD_eq
def kBin (G : Glo) (op : Bop) (b : E) (R : Res (Rv × Env)) : Res (Rv × Env) := R.bind fun p => (runE G b p.2).bind fun q => kOf (dBin op p.1.d q.1.d) q.2
def kBin2 (op : Bop) (x : Rv) (R : Res (Rv × Env)) : Res (Rv × Env) := R.bind fun q => kOf (dBin op x.d q.1.d) q.2
theorem sE_bin {op : Bop} : runE G (.bin op a b) ρ = kBin G op b (runE G a ρ) := by rw [runE]; simp only [kOf_eq]; rfl
theorem k_bin {op : Bop} : kBin G op b (.ok (x, ρ)) = kBin2 op x (runE G b ρ) := id rfl
theorem k_bin2 {op : Bop} : kBin2 op x (.ok (y, ρ)) = kOf (dBin op x.d y.d) ρ := id rfl
def kNeg (R : Res (Rv × Env)) : Res (Rv × Env) := R.bind fun p => kOf (dNeg p.1.d) p.2
theorem sE_neg : runE G (.neg a) ρ = kNeg (runE G a ρ) := by rw [runE]; simp only [kOf_eq]; rfl
theorem k_neg : kNeg (.ok (x, ρ)) = kOf (dNeg x.d) ρ := id rfl
def kCmp (G : Glo) (op : Cop) (b : E) (R : Res (Rv × Env)) : Res (Rv × Env) := R.bind fun p => (runE G b p.2).bind fun q => kOfB (dCmp op p.1.d q.1.d) q.2
def kCmp2 (op : Cop) (x : Rv) (R : Res (Rv × Env)) : Res (Rv × Env) := R.bind fun q => kOfB (dCmp op x.d q.1.d) q.2
theorem sE_cmp {op : Cop} : runE G (.cmp op a b) ρ = kCmp G op b (runE G a ρ) := by rw [runE]; simp only [kOfB_eq]; rfl
theorem k_cmp {op : Cop} : kCmp G op b (.ok (x, ρ)) = kCmp2 op x (runE G b ρ) := id rfl
theorem k_cmp2 {op : Cop} : kCmp2 op x (.ok (y, ρ)) = kOfB (dCmp op x.d y.d) ρ := id rfl
def kChn3 (G : Glo) (op : Cop) (c : E) (y : Rv) (ρ : Env) : Option Bool → Res (Rv × Env) | some true => kCmp2 op y (runE G c ρ) | some false => .ok (.val (.bl false), ρ) | none => .stuck
def kChn2 (G : Glo) (op op' : Cop) (c : E) (x : Rv) (R : Res (Rv × Env)) : Res (Rv × Env) := R.bind fun q => kChn3 G op' c q.1 q.2 (dCmp op x.d q.1.d)
def kChn (G : Glo) (op op' : Cop) (b c : E) (R : Res (Rv × Env)) : Res (Rv × Env) := R.bind fun p => kChn2 G op op' c p.1 (runE G b p.2)
theorem sE_chn {op op' : Cop} : runE G (.chn op op' a b c) ρ = kChn G op op' b c (runE G a ρ) := by
  rw [runE]
  unfold kChn
  congr 1; funext p
  unfold kChn2
  congr 1; funext q
  cases h : dCmp op p.1.d q.1.d with
  | none => rfl
  | some t => cases t with
    | true => simp only [Res.of_some, Res.ok_bind, if_true, kOfB_eq]; rfl
    | false => rfl
theorem k_chn {op op' : Cop} : kChn G op op' b c (.ok (x, ρ)) = kChn2 G op op' c x (runE G b ρ) := id rfl
theorem k_chn2 {op op' : Cop} : kChn2 G op op' c x (.ok (y, ρ)) = kChn3 G op' c y ρ (dCmp op x.d y.d) := id rfl
theorem k_chn3t {op : Cop} : kChn3 G op c y ρ (some true) = kCmp2 op y (runE G c ρ) := id rfl
theorem k_chn3f {op : Cop} : kChn3 G op c y ρ (some false) = .ok (.val (.bl false), ρ) := id rfl
def kAnd2 (G : Glo) (b : E) (x : Rv) (ρ : Env) : Option Bool → Res (Rv × Env) | some true => runE G b ρ | some false => .ok (x, ρ) | none => .stuck
def kAnd (G : Glo) (b : E) (R : Res (Rv × Env)) : Res (Rv × Env) := R.bind fun p => kAnd2 G b p.1 p.2 (dTruth p.1.d)
theorem sE_and : runE G (.and a b) ρ = kAnd G b (runE G a ρ) := by
  rw [runE]; unfold kAnd; congr 1; funext p
  cases dTruth p.1.d with
  | none => rfl
  | some t => cases t <;> rfl
theorem k_and : kAnd G b (.ok (x, ρ)) = kAnd2 G b x ρ (dTruth x.d) := id rfl
theorem k_and_t : kAnd2 G b x ρ (some true) = runE G b ρ := id rfl
theorem k_and_f : kAnd2 G b x ρ (some false) = .ok (x, ρ) := id rfl
def kOr2 (G : Glo) (b : E) (x : Rv) (ρ : Env) : Option Bool → Res (Rv × Env) | some false => runE G b ρ | some true => .ok (x, ρ) | none => .stuck
def kOr (G : Glo) (b : E) (R : Res (Rv × Env)) : Res (Rv × Env) := R.bind fun p => kOr2 G b p.1 p.2 (dTruth p.1.d)
theorem sE_or : runE G (.or a b) ρ = kOr G b (runE G a ρ) := by
  rw [runE]; unfold kOr; congr 1; funext p
  cases dTruth p.1.d with
  | none => rfl
  | some t => cases t <;> rfl
theorem k_or : kOr G b (.ok (x, ρ)) = kOr2 G b x ρ (dTruth x.d) := id rfl
theorem k_or_t : kOr2 G b x ρ (some true) = .ok (x, ρ) := id rfl
theorem k_or_f : kOr2 G b x ρ (some false) = runE G b ρ := id rfl
def kNot2 (ρ : Env) : Option Bool → Res (Rv × Env) | some t => .ok (.val (.bl (!t)), ρ) | none => .stuck
def kNot (R : Res (Rv × Env)) : Res (Rv × Env) := R.bind fun p => kNot2 p.2 (dTruth p.1.d)
theorem sE_not : runE G (.not a) ρ = kNot (runE G a ρ) := by
  rw [runE]; unfold kNot; congr 1; funext p
  cases dTruth p.1.d <;> rfl
theorem k_not : kNot (.ok (x, ρ)) = kNot2 ρ (dTruth x.d) := id rfl
theorem k_not2 : kNot2 ρ (some t) = .ok (.val (.bl (!t)), ρ) := id rfl
def kIte2 (G : Glo) (a b : E) (ρ : Env) : Option Bool → Res (Rv × Env) | some true => runE G a ρ | some false => runE G b ρ | none => .stuck
def kIte (G : Glo) (a b : E) (R : Res (Rv × Env)) : Res (Rv × Env) := R.bind fun p => kIte2 G a b p.2 (dTruth p.1.d)
theorem sE_ite : runE G (.ite c a b) ρ = kIte G a b (runE G c ρ) := by
  rw [runE]; unfold kIte; congr 1; funext p
  cases dTruth p.1.d with
  | none => rfl
  | some t => cases t <;> rfl
theorem k_ite : kIte G a b (.ok (x, ρ)) = kIte2 G a b ρ (dTruth x.d) := id rfl
theorem k_ite_t : kIte2 G a b ρ (some true) = runE G a ρ := id rfl
theorem k_ite_f : kIte2 G a b ρ (some false) = runE G b ρ := id rfl
def kTup2 (rs : List Rv) (ρ : Env) : Bool → Res (Rv × Env) | true => .ok (.val (.tup (rs.map Rv.d)), ρ) | false => .stuck
def kTup (R : Res (List Rv × Env)) : Res (Rv × Env) := R.bind fun p => kTup2 p.1 p.2 (lineOk p.1.length)
theorem sE_tup : runE G (.tup es) ρ = kTup (runEs G es ρ) := by
  rw [runE]; unfold kTup; congr 1; funext p
  cases lineOk p.1.length <;> rfl
theorem k_tup : kTup (.ok (rs, ρ)) = kTup2 rs ρ (lineOk rs.length) := id rfl
theorem k_tup2 : kTup2 rs ρ true = .ok (.val (.tup (rs.map Rv.d)), ρ) := id rfl
def kLst2 (rs : List Rv) (ρ : Env) : Bool → Res (Rv × Env) | true => .ok (.own (.lst (rs.map Rv.d)), ρ) | false => .stuck
def kLst (R : Res (List Rv × Env)) : Res (Rv × Env) := R.bind fun p => kLst2 p.1 p.2 (lineOk p.1.length)
theorem sE_lst : runE G (.lst es) ρ = kLst (runEs G es ρ) := by
  rw [runE]; unfold kLst; congr 1; funext p
  cases lineOk p.1.length <;> rfl
theorem k_lst : kLst (.ok (rs, ρ)) = kLst2 rs ρ (lineOk rs.length) := id rfl
theorem k_lst2 : kLst2 rs ρ true = .ok (.own (.lst (rs.map Rv.d)), ρ) := id rfl
def kIdx (G : Glo) (b : E) (R : Res (Rv × Env)) : Res (Rv × Env) := R.bind fun p => (runE G b p.2).bind fun q => kOfD (dIdx p.1.d q.1.d) q.2
def kIdx2 (x : Rv) (R : Res (Rv × Env)) : Res (Rv × Env) := R.bind fun q => kOfD (dIdx x.d q.1.d) q.2
theorem sE_idx : runE G (.idx a b) ρ = kIdx G b (runE G a ρ) := by rw [runE]; simp only [kOfD_eq]; rfl
theorem k_idx : kIdx G b (.ok (x, ρ)) = kIdx2 x (runE G b ρ) := id rfl
theorem k_idx2 : kIdx2 x (.ok (y, ρ)) = kOfD (dIdx x.d y.d) ρ := id rfl
def kIdv3 (y : Rv) (ρ : Env) : Option D → Res (Rv × Env) | some c => kOfD (dIdx c y.d) ρ | none => .stuck
def kIdv2 (i : Nat) (R : Res (Rv × Env)) : Res (Rv × Env) := R.bind fun q => kIdv3 q.1 q.2 (q.2.at i).d?
def kIdv (G : Glo) (i : Nat) (b : E) (ρ : Env) : Option D → Res (Rv × Env) | some _ => kIdv2 i (runE G b ρ) | none => .stuck
theorem sE_idv : runE G (.idv i b) ρ = kIdv G i b ρ (ρ.at i).d? := by
  rw [runE]
  cases (ρ.at i).d? with
  | none => rfl
  | some d =>
    simp only [Res.of_some, Res.ok_bind, kOfD_eq]
    show _ = kIdv2 i _
    unfold kIdv2; congr 1; funext q
    cases (q.2.at i).d? <;> rfl
theorem k_idv : kIdv G i b ρ (some d) = kIdv2 i (runE G b ρ) := id rfl
theorem k_idv2 : kIdv2 i (.ok (y, ρ)) = kIdv3 y ρ (ρ.at i).d? := id rfl
theorem k_idv3 : kIdv3 y ρ (some d) = kOfD (dIdx d y.d) ρ := id rfl
/-- a bound of a slice -/
def runO (G : Glo) (b : E) (ρ : Env) : Res (Option Int × Env) := if b.isNop then .ok (none, ρ) else (runE G b ρ).bind fun q => (Res.of (dPart q.1.d)).bind fun o => .ok (o, q.2)
def kPart2 (ρ : Env) : Option (Option Int) → Res (Option Int × Env) | some o => .ok (o, ρ) | none => .stuck
def kPart (R : Res (Rv × Env)) : Res (Option Int × Env) := R.bind fun q => kPart2 q.2 (dPart q.1.d)
theorem sO_nop : runO G .nop ρ = .ok (none, ρ) := id rfl
theorem sO_ne (h : b.isNop = false) : runO G b ρ = kPart (runE G b ρ) := by
  unfold runO kPart
  rw [h]
  simp only [Bool.false_eq_true, if_false]
  congr 1; funext q
  cases dPart q.1.d <;> rfl
theorem sO_var : runO G (.var i) ρ = kPart (runE G (.var i) ρ) := sO_ne rfl
theorem sO_cst : runO G (.cst d) ρ = kPart (runE G (.cst d) ρ) := sO_ne rfl
theorem sO_bin {op : Bop} : runO G (.bin op a b) ρ = kPart (runE G (.bin op a b) ρ) := sO_ne rfl
theorem sO_neg : runO G (.neg a) ρ = kPart (runE G (.neg a) ρ) := sO_ne rfl
theorem sO_lenv : runO G (.lenv i) ρ = kPart (runE G (.lenv i) ρ) := sO_ne rfl
theorem sO_idv : runO G (.idv i b) ρ = kPart (runE G (.idv i b) ρ) := sO_ne rfl
theorem k_part : kPart (.ok (x, ρ)) = kPart2 ρ (dPart x.d) := id rfl
theorem k_part2 {o : Option Int} : kPart2 ρ (some o) = .ok (o, ρ) := id rfl
theorem part_int {n : Int} : dPart (.int n) = some (some n) := id rfl
def kSli3 (x : Rv) (l : Option Int) (R : Res (Option Int × Env)) : Res (Rv × Env) := R.bind fun h => kOf (dCut x.d l h.1) h.2
def kSli2 (G : Glo) (c : E) (x : Rv) (R : Res (Option Int × Env)) : Res (Rv × Env) := R.bind fun l => kSli3 x l.1 (runO G c l.2)
def kSli (G : Glo) (b c : E) (R : Res (Rv × Env)) : Res (Rv × Env) := R.bind fun p => kSli2 G c p.1 (runO G b p.2)
theorem sE_sli : runE G (.sli a b c) ρ = kSli G b c (runE G a ρ) := by rw [runE]; simp only [kOf_eq]; rfl
theorem k_sli : kSli G b c (.ok (x, ρ)) = kSli2 G c x (runO G b ρ) := id rfl
theorem k_sli2 {l : Option Int} : kSli2 G c x (.ok (l, ρ)) = kSli3 x l (runO G c ρ) := id rfl
theorem k_sli3 {l h : Option Int} : kSli3 x l (.ok (h, ρ)) = kOf (dCut x.d l h) ρ := id rfl
def kLen (ρ : Env) : Option D → Res (Rv × Env) | some c => kOf (dBi .len [c]) ρ | none => .stuck
theorem sE_lenv : runE G (.lenv i) ρ = kLen ρ (ρ.at i).d? := by
  rw [runE]; simp only [kOf_eq]
  cases (ρ.at i).d? <;> rfl
theorem k_len : kLen ρ (some d) = kOf (dBi .len [d]) ρ := id rfl
def kInv2 (op : Cop) (x : Rv) (ρ : Env) : Option D → Res (Rv × Env) | some c => kOfB (dCmp op x.d c) ρ | none => .stuck
def kInv (op : Cop) (i : Nat) (R : Res (Rv × Env)) : Res (Rv × Env) := R.bind fun p => kInv2 op p.1 p.2 (p.2.at i).d?
theorem sE_inv {op : Cop} : runE G (.inv op a i) ρ = kInv op i (runE G a ρ) := by
  rw [runE]; simp only [kOfB_eq]; unfold kInv; congr 1; funext p
  cases (p.2.at i).d? <;> rfl
theorem k_inv {op : Cop} : kInv op i (.ok (x, ρ)) = kInv2 op x ρ (ρ.at i).d? := id rfl
theorem k_inv2 {op : Cop} : kInv2 op x ρ (some d) = kOfB (dCmp op x.d d) ρ := id rfl
def kCmv3 (op : Cop) (x : Rv) (ρ : Env) : Option D → Res (Rv × Env) | some c => kOfB (dCmp op c x.d) ρ | none => .stuck
def kCmv2 (op : Cop) (i : Nat) (R : Res (Rv × Env)) : Res (Rv × Env) := R.bind fun p => kCmv3 op p.1 p.2 (p.2.at i).d?
def kCmv (G : Glo) (op : Cop) (i : Nat) (a : E) (ρ : Env) : Option D → Res (Rv × Env) | some _ => kCmv2 op i (runE G a ρ) | none => .stuck
theorem sE_cmv {op : Cop} : runE G (.cmv op i a) ρ = kCmv G op i a ρ (ρ.at i).d? := by
  rw [runE]; simp only [kOfB_eq]
  cases (ρ.at i).d? with
  | none => rfl
  | some d =>
    simp only [Res.of_some, Res.ok_bind]
    show _ = kCmv2 op i _
    unfold kCmv2; congr 1; funext q
    cases (q.2.at i).d? <;> rfl
theorem k_cmv {op : Cop} : kCmv G op i a ρ (some d) = kCmv2 op i (runE G a ρ) := id rfl
theorem k_cmv2 {op : Cop} : kCmv2 op i (.ok (x, ρ)) = kCmv3 op x ρ (ρ.at i).d? := id rfl
theorem k_cmv3 {op : Cop} : kCmv3 op x ρ (some d) = kOfB (dCmp op d x.d) ρ := id rfl
def kBi (op : Bi) (R : Res (List Rv × Env)) : Res (Rv × Env) := R.bind fun p => kOf (dBi op (p.1.map Rv.d)) p.2
theorem sE_bi {op : Bi} : runE G (.bi op es) ρ = kBi op (runEs G es ρ) := by rw [runE]; simp only [kOf_eq]; rfl
theorem k_bi {op : Bi} : kBi op (.ok (rs, ρ)) = kOf (dBi op (rs.map Rv.d)) ρ := id rfl
def kJoi (G : Glo) (b : E) (R : Res (Rv × Env)) : Res (Rv × Env) := R.bind fun p => (runE G b p.2).bind fun q => kOfD (joinD p.1.d q.1.d) q.2
def kJoi2 (x : Rv) (R : Res (Rv × Env)) : Res (Rv × Env) := R.bind fun q => kOfD (joinD x.d q.1.d) q.2
theorem sE_joi : runE G (.joi a b) ρ = kJoi G b (runE G a ρ) := by rw [runE]; simp only [kOfD_eq]; rfl
theorem k_joi : kJoi G b (.ok (x, ρ)) = kJoi2 x (runE G b ρ) := id rfl
theorem k_joi2 : kJoi2 x (.ok (y, ρ)) = kOfD (joinD x.d y.d) ρ := id rfl
def argS (r : Rv) : Sl := .val r.d
theorem lk0 : lineOk 0 = true := id rfl
theorem lk1 : lineOk 1 = true := id rfl
theorem lk2 : lineOk 2 = true := id rfl
theorem lk3 : lineOk 3 = true := id rfl
theorem lk4 : lineOk 4 = true := id rfl
theorem lk5 : lineOk 5 = true := id rfl
theorem lk6 : lineOk 6 = true := id rfl
theorem lk7 : lineOk 7 = true := id rfl
theorem lk8 : lineOk 8 = true := id rfl
theorem lk9 : lineOk 9 = true := id rfl
theorem lk10 : lineOk 10 = true := id rfl
theorem lk11 : lineOk 11 = true := id rfl
theorem lk12 : lineOk 12 = true := id rfl
theorem lk13 : lineOk 13 = true := id rfl
theorem lk14 : lineOk 14 = true := id rfl
theorem lk15 : lineOk 15 = true := id rfl
theorem lk16 : lineOk 16 = true := id rfl
theorem lk17 : lineOk 17 = true := id rfl
theorem lk18 : lineOk 18 = true := id rfl
theorem lk19 : lineOk 19 = true := id rfl
theorem arg_v : argS (.val d) = .val d := id rfl
theorem arg_o : argS (.own d) = .val d := id rfl
theorem args_nil : ([] : List Rv).map argS = [] := id rfl
theorem args_cons : (x :: rs).map argS = .val x.d :: rs.map argS := id rfl
def kCal2 (ρ : Env) (R : Res (Rv × List Sl)) : Res (Rv × Env) := R.bind fun q => .ok (q.1, ρ)
def kCal (G : Glo) (f : Nat) (R : Res (List Rv × Env)) : Res (Rv × Env) := R.bind fun p => kCal2 p.2 (G.fn f (p.1.map argS))
theorem sE_cal {f : Nat} : runE G (.cal f es) ρ = kCal G f (runEs G es ρ) := by rw [runE]; rfl
theorem k_cal {f : Nat} : kCal G f (.ok (rs, ρ)) = kCal2 ρ (G.fn f (rs.map argS)) := id rfl
theorem k_cal2 {ps : List Sl} : kCal2 ρ (.ok (x, ps)) = .ok (x, ρ) := id rfl
def kCarO (i : Nat) (ρ : Env) : Res (Rv × List Sl) → Res (Rv × Env) | .ok (q, .ref c :: _) => .ok (.val q.d, ρ.set i (.own c)) | .ok _ => .stuck | .exc c p => .exc c p | .stuck => .stuck
def kCarR (i : Nat) (ρ : Env) : Res (Rv × List Sl) → Res (Rv × Env) | .ok (q, .ref c :: _) => .ok (.val q.d, ρ.set i (.ref c)) | .ok _ => .stuck | .exc c p => .exc c p | .stuck => .stuck
def kCar3 (G : Glo) (f i : Nat) (rs : List Rv) (ρ : Env) : Sl → Res (Rv × Env) | .own c => kCarO i ρ (G.fn f (.ref c :: rs.map argS)) | .ref c => kCarR i ρ (G.fn f (.ref c :: rs.map argS)) | _ => .stuck
def kCar2 (G : Glo) (f i : Nat) (R : Res (List Rv × Env)) : Res (Rv × Env) := R.bind fun p => kCar3 G f i p.1 p.2 (p.2.at i)
def kCar (G : Glo) (f i : Nat) (es : Es) (ρ : Env) : Option D → Res (Rv × Env) | some _ => kCar2 G f i (runEs G es ρ) | none => .stuck
theorem sE_car {f : Nat} : runE G (.car f i es) ρ = kCar G f i es ρ (ρ.at i).d? := by
  rw [runE]
  cases (ρ.at i).d? with
  | none => rfl
  | some d =>
    simp only [Res.of_some, Res.ok_bind]
    show _ = kCar2 G f i _
    unfold kCar2; congr 1; funext p
    cases p.2.at i with
    | own c =>
      show (G.fn f (.ref c :: p.1.map argS)).bind _ = kCarO i _ (G.fn f (.ref c :: p.1.map argS))
      cases G.fn f (.ref c :: p.1.map argS) with
      | ok q =>
        obtain ⟨q1, q2⟩ := q
        cases q2 with
        | nil => rfl
        | cons s _ => cases s <;> rfl
      | exc _ _ => rfl
      | stuck => rfl
    | ref c =>
      show (G.fn f (.ref c :: p.1.map argS)).bind _ = kCarR i _ (G.fn f (.ref c :: p.1.map argS))
      cases G.fn f (.ref c :: p.1.map argS) with
      | ok q =>
        obtain ⟨q1, q2⟩ := q
        cases q2 with
        | nil => rfl
        | cons s _ => cases s <;> rfl
      | exc _ _ => rfl
      | stuck => rfl
    | val _ => rfl
    | no => rfl
theorem k_car {f : Nat} : kCar G f i es ρ (some d) = kCar2 G f i (runEs G es ρ) := id rfl
theorem k_car2 {f : Nat} : kCar2 G f i (.ok (rs, ρ)) = kCar3 G f i rs ρ (ρ.at i) := id rfl
theorem k_car3o {f : Nat} : kCar3 G f i rs ρ (.own d) = kCarO i ρ (G.fn f (.ref d :: rs.map argS)) := id rfl
theorem k_car3r {f : Nat} : kCar3 G f i rs ρ (.ref d) = kCarR i ρ (G.fn f (.ref d :: rs.map argS)) := id rfl
theorem k_carO {ps : List Sl} : kCarO i ρ (.ok (x, .ref d :: ps)) = .ok (.val x.d, ρ.set i (.own d)) := id rfl
theorem k_carR {ps : List Sl} : kCarR i ρ (.ok (x, .ref d :: ps)) = .ok (.val x.d, ρ.set i (.ref d)) := id rfl
def kIsi (ty : Ty) (R : Res (Rv × Env)) : Res (Rv × Env) := R.bind fun p => kOfB (dIsi ty p.1.d) p.2
theorem sE_isi {ty : Ty} : runE G (.isi ty a) ρ = kIsi ty (runE G a ρ) := by rw [runE]; simp only [kOfB_eq]; rfl
theorem k_isi {ty : Ty} : kIsi ty (.ok (x, ρ)) = kOfB (dIsi ty x.d) ρ := id rfl
def kSme (G : Glo) (m : Sm1) (b : E) (R : Res (Rv × Env)) : Res (Rv × Env) := R.bind fun p => (runE G b p.2).bind fun q => kOfD (dSm m p.1.d q.1.d) q.2
def kSme2 (m : Sm1) (x : Rv) (R : Res (Rv × Env)) : Res (Rv × Env) := R.bind fun q => kOfD (dSm m x.d q.1.d) q.2
theorem sE_sme {m : Sm1} : runE G (.sme m a b) ρ = kSme G m b (runE G a ρ) := by rw [runE]; simp only [kOfD_eq]; rfl
theorem k_sme {m : Sm1} : kSme G m b (.ok (x, ρ)) = kSme2 m x (runE G b ρ) := id rfl
theorem k_sme2 {m : Sm1} : kSme2 m x (.ok (y, ρ)) = kOfD (dSm m x.d y.d) ρ := id rfl
def kDic3 (kvs : List (Ky × D)) (ρ : Env) : Bool → Res (Rv × Env) | true => .ok (.own (.dct (mergeD [] kvs)), ρ) | false => .stuck
def kDic2 (ρ : Env) : Option (List (Ky × D)) → Res (Rv × Env) | some kvs => kDic3 kvs ρ (decide (kvs.length ≤ 15)) | none => .stuck
def kDic (R : Res (List Rv × Env)) : Res (Rv × Env) := R.bind fun p => kDic2 p.2 (pairsK (p.1.map Rv.d))
theorem sE_dic : runE G (.dic es) ρ = kDic (runEs G es ρ) := by
  rw [runE]; unfold kDic; congr 1; funext p
  cases pairsK (p.1.map Rv.d) with
  | none => rfl
  | some kvs =>
    show (if decide (kvs.length ≤ 15) then _ else _) = kDic3 kvs p.2 (decide (kvs.length ≤ 15))
    cases decide (kvs.length ≤ 15) <;> rfl
theorem k_dic : kDic (.ok (rs, ρ)) = kDic2 ρ (pairsK (rs.map Rv.d)) := id rfl
theorem k_dic2 {kvs : List (Ky × D)} : kDic2 ρ (some kvs) = kDic3 kvs ρ (decide (kvs.length ≤ 15)) := id rfl
theorem k_dic3 {kvs : List (Ky × D)} : kDic3 kvs ρ true = .ok (.own (.dct (mergeD [] kvs)), ρ) := id rfl
theorem sEs_nil : runEs G .nil ρ = .ok ([], ρ) := by rw [runEs]
def kEs2 (x : Rv) (R : Res (List Rv × Env)) : Res (List Rv × Env) := R.bind fun q => .ok (x :: q.1, q.2)
def kEs (G : Glo) (es : Es) (R : Res (Rv × Env)) : Res (List Rv × Env) := R.bind fun p => kEs2 p.1 (runEs G es p.2)
theorem sEs_cons : runEs G (.cons e es) ρ = kEs G es (runE G e ρ) := by rw [runEs]; rfl
theorem k_es : kEs G es (.ok (x, ρ)) = kEs2 x (runEs G es ρ) := id rfl
theorem k_es2 : kEs2 x (.ok (rs, ρ)) = .ok (x :: rs, ρ) := id rfl
abbrev RI := Res (List D × Env × Option (Nat × D))
def kIt2 (ρ : Env) : Option (List D) → RI | some ds => .ok (ds, ρ, none) | none => .stuck
def kFrz (R : Res (Rv × Env)) : RI := R.bind fun p => kIt2 p.2 (dItems p.1.d)
theorem sI_frz : runI G (.frz e) ρ = kFrz (runE G e ρ) := by
  rw [runI]; unfold kFrz; congr 1; funext p
  cases dItems p.1.d <;> rfl
theorem k_frz : kFrz (.ok (x, ρ)) = kIt2 ρ (dItems x.d) := id rfl
theorem k_it2 {ds : List D} : kIt2 ρ (some ds) = .ok (ds, ρ, none) := id rfl
def kRng (R : Res (List Rv × Env)) : RI := R.bind fun p => kIt2 p.2 (dRange (p.1.map Rv.d))
theorem sI_rng : runI G (.rng es) ρ = kRng (runEs G es ρ) := by
  rw [runI]; unfold kRng; congr 1; funext p
  cases dRange (p.1.map Rv.d) <;> rfl
theorem k_rng : kRng (.ok (rs, ρ)) = kIt2 ρ (dRange (rs.map Rv.d)) := id rfl
theorem items_str {l : List Nat} : dItems (.str l) = some (signs l) := id rfl
theorem items_lst {l : List D} : dItems (.lst l) = some l := id rfl
theorem items_tup {l : List D} : dItems (.tup l) = some l := id rfl
/-! statements -/
def kPut : Option Env → Res Fl | some ρ => .ok (.nx ρ) | none => .stuck
theorem k_put : kPut (some ρ) = .ok (.nx ρ) := id rfl
def kAsg (i : Nat) (R : Res (Rv × Env)) : Res Fl := R.bind fun p => kPut (p.2.put i p.1.sl)
theorem sS_asg : runS G (.asg i e) ρ = kAsg i (runE G e ρ) := by
  rw [runS]; unfold kAsg; congr 1; funext p
  cases p.2.put i p.1.sl <;> rfl
theorem k_asg : kAsg i (.ok (x, ρ)) = kPut (ρ.put i x.sl) := id rfl
def kPar (is : List Nat) (R : Res (List Rv × Env)) : Res Fl := R.bind fun p => kPut (setAll is p.1 p.2)
theorem sS_par {is : List Nat} : runS G (.par is es) ρ = kPar is (runEs G es ρ) := by
  rw [runS]; unfold kPar; congr 1; funext p
  cases setAll is p.1 p.2 <;> rfl
theorem k_par {is : List Nat} : kPar is (.ok (rs, ρ)) = kPut (setAll is rs ρ) := id rfl
def kUnp (tt : T) (R : Res (Rv × Env)) : Res Fl := R.bind fun p => kPut (setT tt p.1.d p.2)
theorem sS_unp {tt : T} : runS G (.unp tt e) ρ = kUnp tt (runE G e ρ) := by
  rw [runS]; unfold kUnp; congr 1; funext p
  cases setT tt p.1.d p.2 <;> rfl
theorem k_unp {tt : T} : kUnp tt (.ok (x, ρ)) = kPut (setT tt x.d ρ) := id rfl
def kExp (R : Res (Rv × Env)) : Res Fl := R.bind fun p => .ok (.nx p.2)
theorem sS_exp : runS G (.exp e) ρ = kExp (runE G e ρ) := by rw [runS]; rfl
theorem k_exp : kExp (.ok (x, ρ)) = .ok (.nx ρ) := id rfl
def kRet (R : Res (Rv × Env)) : Res Fl := R.bind fun p => .ok (.rt p.1 p.2)
theorem sS_ret : runS G (.ret e) ρ = kRet (runE G e ρ) := by rw [runS]; rfl
theorem k_ret : kRet (.ok (x, ρ)) = .ok (.rt x ρ) := id rfl
def kIf2 (G : Glo) (A B : Ss) (ρ : Env) : Option Bool → Res Fl | some true => runSs G A ρ | some false => runSs G B ρ | none => .stuck
def kIf (G : Glo) (A B : Ss) (R : Res (Rv × Env)) : Res Fl := R.bind fun p => kIf2 G A B p.2 (dTruth p.1.d)
theorem sS_ife {A B : Ss} : runS G (.ife c A B) ρ = kIf G A B (runE G c ρ) := by
  rw [runS]; unfold kIf; congr 1; funext p
  cases dTruth p.1.d with
  | none => rfl
  | some t => cases t <;> rfl
theorem k_if {A B : Ss} : kIf G A B (.ok (x, ρ)) = kIf2 G A B ρ (dTruth x.d) := id rfl
theorem k_if_t {A B : Ss} : kIf2 G A B ρ (some true) = runSs G A ρ := id rfl
theorem k_if_f {A B : Ss} : kIf2 G A B ρ (some false) = runSs G B ρ := id rfl
/-- a loop over known things -/
def forF (G : Glo) (tt : T) (B : Ss) (ds : List D) (ρ : Env) : Res Fl := loopF (fun x ρ => (Res.of (setT tt x ρ)).bind fun ρ1 => runSs G B ρ1) ds ρ
def kFor (G : Glo) (tt : T) (B : Ss) : RI → Res Fl | .ok (ds, ρ, none) => forF G tt B ds ρ | .ok _ => .stuck | .exc c p => .exc c p | .stuck => .stuck
theorem sS_for {tt : T} {it : I} {B : Ss} : runS G (.fors tt it B) ρ = kFor G tt B (runI G it ρ) := by
  rw [runS]
  cases runI G it ρ with
  | ok s =>
    obtain ⟨ds, ρ', o⟩ := s
    cases o <;> rfl
  | exc _ _ => rfl
  | stuck => rfl
theorem k_for {tt : T} {B : Ss} {ds : List D} : kFor G tt B (.ok (ds, ρ, none)) = forF G tt B ds ρ := id rfl
def kLoop (G : Glo) (tt : T) (B : Ss) (ds : List D) : Res Fl → Res Fl | .ok (.nx ρ) => forF G tt B ds ρ | .ok (.ct ρ) => forF G tt B ds ρ | .ok (.bk ρ) => .ok (.nx ρ) | .ok (.rt d ρ) => .ok (.rt d ρ) | .exc c p => .exc c p | .stuck => .stuck
def kTurn (G : Glo) (B : Ss) : Option Env → Res Fl | some ρ => runSs G B ρ | none => .stuck
theorem for_nil {tt : T} {B : Ss} : forF G tt B [] ρ = .ok (.nx ρ) := rfl
theorem for_cons {tt : T} {B : Ss} {x : D} {ds : List D} : forF G tt B (x :: ds) ρ = kLoop G tt B ds (kTurn G B (setT tt x ρ)) := by
  show ((Res.of (setT tt x ρ)).bind fun ρ1 => runSs G B ρ1).bind _ = _
  have e : ((Res.of (setT tt x ρ)).bind fun ρ1 => runSs G B ρ1) = kTurn G B (setT tt x ρ) := by cases setT tt x ρ <;> rfl
  rw [e]
  cases kTurn G B (setT tt x ρ) with
  | ok f => cases f <;> rfl
  | exc _ _ => rfl
  | stuck => rfl
theorem k_turn {B : Ss} : kTurn G B (some ρ) = runSs G B ρ := id rfl
theorem k_loop_nx {tt : T} {B : Ss} {ds : List D} : kLoop G tt B ds (.ok (.nx ρ)) = forF G tt B ds ρ := id rfl
theorem k_loop_ct {tt : T} {B : Ss} {ds : List D} : kLoop G tt B ds (.ok (.ct ρ)) = forF G tt B ds ρ := id rfl
theorem k_loop_bk {tt : T} {B : Ss} {ds : List D} : kLoop G tt B ds (.ok (.bk ρ)) = .ok (.nx ρ) := id rfl
theorem k_loop_rt {tt : T} {B : Ss} {ds : List D} : kLoop G tt B ds (.ok (.rt x ρ)) = .ok (.rt x ρ) := id rfl
/-- a while -/
def whlF (G : Glo) (n : Nat) (c : E) (B : Ss) (ρ : Env) : Res Fl := loopW (fun ρ => (runE G c ρ).bind fun p => truR p.1 p.2) (fun ρ => runSs G B ρ) n ρ
theorem sS_whl {n : Nat} {B : Ss} : runS G (.whl n c B) ρ = whlF G n c B ρ := by rw [runS]; rfl
def kWhl3 (G : Glo) (n : Nat) (c : E) (B : Ss) : Res Fl → Res Fl | .ok (.nx ρ) => whlF G n c B ρ | .ok (.ct ρ) => whlF G n c B ρ | .ok (.bk ρ) => .ok (.nx ρ) | .ok (.rt d ρ) => .ok (.rt d ρ) | .exc c p => .exc c p | .stuck => .stuck
def kWhl2 (G : Glo) (n : Nat) (c : E) (B : Ss) (ρ : Env) : Option Bool → Res Fl | some true => kWhl3 G n c B (runSs G B ρ) | some false => .ok (.nx ρ) | none => .stuck
def kWhl (G : Glo) (n : Nat) (c : E) (B : Ss) (R : Res (Rv × Env)) : Res Fl := R.bind fun p => kWhl2 G n c B p.2 (dTruth p.1.d)
theorem whl_s {n : Nat} {B : Ss} : whlF G (n + 1) c B ρ = kWhl G n c B (runE G c ρ) := by
  unfold whlF kWhl
  rw [loopW]
  cases runE G c ρ with
  | ok p =>
    simp only [Res.ok_bind, truR]
    cases dTruth p.1.d with
    | none => rfl
    | some t =>
      cases t with
      | false => rfl
      | true =>
        simp only [Res.of_some, Res.ok_bind, if_true]
        show _ = kWhl3 G n c B (runSs G B p.2)
        cases runSs G B p.2 with
        | ok f => cases f <;> rfl
        | exc _ _ => rfl
        | stuck => rfl
  | exc _ _ => rfl
  | stuck => rfl
theorem k_whl {n : Nat} {B : Ss} : kWhl G n c B (.ok (x, ρ)) = kWhl2 G n c B ρ (dTruth x.d) := id rfl
theorem k_whl_t {n : Nat} {B : Ss} : kWhl2 G n c B ρ (some true) = kWhl3 G n c B (runSs G B ρ) := id rfl
theorem k_whl_f {n : Nat} {B : Ss} : kWhl2 G n c B ρ (some false) = .ok (.nx ρ) := id rfl
theorem k_whl_nx {n : Nat} {B : Ss} : kWhl3 G n c B (.ok (.nx ρ)) = whlF G n c B ρ := id rfl
theorem k_whl_ct {n : Nat} {B : Ss} : kWhl3 G n c B (.ok (.ct ρ)) = whlF G n c B ρ := id rfl
theorem k_whl_bk {n : Nat} {B : Ss} : kWhl3 G n c B (.ok (.bk ρ)) = .ok (.nx ρ) := id rfl
theorem k_whl_rt {n : Nat} {B : Ss} : kWhl3 G n c B (.ok (.rt x ρ)) = .ok (.rt x ρ) := id rfl
theorem sS_brk : runS G .brk ρ = .ok (.bk ρ) := by rw [runS]
theorem sS_cont : runS G .cont ρ = .ok (.ct ρ) := by rw [runS]
theorem sS_pass : runS G .pass ρ = .ok (.nx ρ) := by rw [runS]
def kAug3 (i : Nat) (ρ : Env) : Option D → Sl → Res Fl | some d, .val _ => .ok (.nx (ρ.set i (.val d))) | _, _ => .stuck
def kAug2 (i : Nat) (op : Bop) (d : D) (R : Res (Rv × Env)) : Res Fl := R.bind fun p => kAug3 i p.2 (dAug op d p.1.d) (p.2.at i)
def kAug (G : Glo) (i : Nat) (op : Bop) (e : E) (ρ : Env) : Sl → Res Fl | .val d => kAug2 i op d (runE G e ρ) | _ => .stuck
theorem sS_aug {op : Bop} : runS G (.aug i op e) ρ = kAug G i op e ρ (ρ.at i) := by
  rw [runS]
  cases ρ.at i with
  | val d =>
    show (runE G e ρ).bind _ = kAug2 i op d (runE G e ρ)
    unfold kAug2; congr 1; funext p
    cases dAug op d p.1.d with
    | none => rfl
    | some z =>
      simp only [Res.of_some, Res.ok_bind]
      cases p.2.at i <;> rfl
  | _ => rfl
theorem k_aug {op : Bop} : kAug G i op e ρ (.val d) = kAug2 i op d (runE G e ρ) := id rfl
theorem k_aug2 {op : Bop} : kAug2 i op d (.ok (x, ρ)) = kAug3 i ρ (dAug op d x.d) (ρ.at i) := id rfl
theorem k_aug3 {d' : D} : kAug3 i ρ (some d) (.val d') = .ok (.nx (ρ.set i (.val d))) := id rfl
def kSeq (G : Glo) (ss : Ss) : Res Fl → Res Fl | .ok (.nx ρ) => runSs G ss ρ | .ok (.rt d ρ) => .ok (.rt d ρ) | .ok (.bk ρ) => .ok (.bk ρ) | .ok (.ct ρ) => .ok (.ct ρ) | .exc c p => .exc c p | .stuck => .stuck
theorem sSs_nil : runSs G .nil ρ = .ok (.nx ρ) := by rw [runSs]
theorem sSs_cons {s : S} {ss : Ss} : runSs G (.cons s ss) ρ = kSeq G ss (runS G s ρ) := by
  rw [runSs]
  cases runS G s ρ with
  | ok f => cases f <;> rfl
  | exc _ _ => rfl
  | stuck => rfl
theorem k_seq_nx {ss : Ss} : kSeq G ss (.ok (.nx ρ)) = runSs G ss ρ := id rfl
theorem k_seq_rt {ss : Ss} : kSeq G ss (.ok (.rt x ρ)) = .ok (.rt x ρ) := id rfl
theorem k_seq_bk {ss : Ss} : kSeq G ss (.ok (.bk ρ)) = .ok (.bk ρ) := id rfl
theorem k_seq_ct {ss : Ss} : kSeq G ss (.ok (.ct ρ)) = .ok (.ct ρ) := id rfl
def kApp3 (i : Nat) (x : Rv) (ρ : Env) : Sl → Res Fl
  | .own (.lst ds) => if lineOk (ds.length + 1) then .ok (.nx (ρ.set i (.own (.lst (ds ++ [x.d]))))) else .stuck
  | .ref (.lst ds) => if lineOk (ds.length + 1) then .ok (.nx (ρ.set i (.ref (.lst (ds ++ [x.d]))))) else .stuck
  | _ => .stuck
def kApp2 (i : Nat) (R : Res (Rv × Env)) : Res Fl := R.bind fun p => kApp3 i p.1 p.2 (p.2.at i)
def kApp (G : Glo) (i : Nat) (e : E) (ρ : Env) : Option D → Res Fl | some (.lst _) => kApp2 i (runE G e ρ) | _ => .stuck
theorem sS_app : runS G (.app i e) ρ = kApp G i e ρ (ρ.at i).d? := by
  rw [runS]
  cases (ρ.at i).d? with
  | none => rfl
  | some d =>
    cases d with
    | lst l =>
      show (runE G e ρ).bind _ = kApp2 i (runE G e ρ)
      unfold kApp2
      cases runE G e ρ with
      | ok p =>
        simp only [Res.ok_bind]
        cases p.2.at i with
        | own d => cases d <;> rfl
        | ref d => cases d <;> rfl
        | _ => rfl
      | exc _ _ => rfl
      | stuck => rfl
    | _ => rfl
theorem k_app {l : List D} : kApp G i e ρ (some (.lst l)) = kApp2 i (runE G e ρ) := id rfl
theorem k_app2 : kApp2 i (.ok (x, ρ)) = kApp3 i x ρ (ρ.at i) := id rfl
theorem k_app3o {l : List D} : kApp3 i x ρ (.own (.lst l)) = if lineOk (l.length + 1) then .ok (.nx (ρ.set i (.own (.lst (l ++ [x.d]))))) else .stuck := id rfl
theorem k_app3r {l : List D} : kApp3 i x ρ (.ref (.lst l)) = if lineOk (l.length + 1) then .ok (.nx (ρ.set i (.ref (.lst (l ++ [x.d]))))) else .stuck := id rfl
end
end Gw

set_option Elab.async false
set_option linter.all false
set_option maxRecDepth 100000
set_option maxHeartbeats 1000000
namespace GwK
open PySem L2 Gw Grow
theorem cut_last {α : Type} (xs : List α) : cut xs (some ((xs.length : Int) - 1)) none = xs.drop (xs.length - 1) := by
  unfold cut sIx
  simp only []
  by_cases h : xs.length = 0
  · have : xs = [] := List.length_eq_zero_iff.mp h
    subst this; rfl
  · rw [if_neg (by omega), show min ((xs.length : Int) - 1).toNat xs.length = xs.length - 1 by omega]
    exact List.take_of_length_le (by simp)
theorem filt_signs (p : Nat → Bool) (u : List Nat) : ((signs u).filter fun x => p (sgn x)).map (fun x => x) = signs (u.filter p) := by
  unfold signs
  rw [List.map_id', List.filter_map]
  rfl
theorem joi_signs {u : List Nat} (h : u.length ≤ 16777216) : joinD (.str []) (.lst (signs u)) = some (.str u) := by
  have hz : lineOk u.length = true := by unfold lineOk; exact decide_eq_true h
  unfold signs
  simp only [joinD, strs_signs, sum_signs, hz, if_true, flat_signs]
theorem sumLen_is : ∀ ls : List (List Nat), sumLen ls = ls.flatten.length
  | [] => rfl
  | l :: r => by simp [sumLen, sumLen_is r]
theorem joi_flat (g : Gs) {e : List Nat} (h : (e.flatMap g.at).length ≤ 16777216) : joinD (.str []) (.lst (e.map fun c => D.str (g.at c))) = some (.str (e.flatMap g.at)) := by
  have hz : lineOk (sumLen (e.map g.at)) = true := by
    unfold lineOk
    rw [sumLen_is]
    exact decide_eq_true (by rw [List.flatMap] at h; exact h)
  simp only [joinD, flat_strs, hz, if_true, List.flatMap]
theorem gt0 (n : Nat) : dCmp .gt (.int (n : Int)) (.int 0) = some (decide (0 < n)) := by
  show some (decide ((0 : Int) < (n : Int))) = _
  congr 1
  rw [Bool.eq_iff_iff]
  simp
def RowsOk (G : Glo) : Prop := ∀ (g : Gs), g.Ok → ∀ m : Nat, m < 900 → ∃ ps, G.fn 8 [.val (gd g), .val (.str [97, 98]), .val (.int (m : Int))] = .ok (.val (.lst (rows g m)), ps)
/-- the filter of letters that live -/
theorem living {G : Glo} {ρ : Gw.Env} {it : Gw.I} {ρ1 : Gw.Env} {u : List Nat} (hu : AB u) (hl : u.length ≤ 16777216) {l : Nat × Nat} (hi : runI G it ρ = .ok (signs u, ρ1, none)) (h16 : Sv (ρ1.at 16)) (h14 : ∀ x, Env.at (ρ1.set 16 x) 14 = .val (ld l)) (hn : 16 < ρ1.length) :
    runE G (.lc (.var 16) (.nm 16) it (.cmp .gt (.idv 14 (.var 16)) (.cst (.int 0)))) ρ = .ok (.own (.lst (signs (u.filter fun x => decide (0 < val l x)))), ρ1.set 16 .no) := by
  have h16x : ∀ x, Env.at (ρ1.set 16 x) 16 = x := fun x => by unfold Env.at; rw [List.getElem?_set_self hn]; rfl
  have q := ev_lcv (G := G) (elt := .var 16) (c := .cmp .gt (.idv 14 (.var 16)) (.cst (.int 0))) (v := 15) (it := it) (ρ := ρ) (ρ1 := ρ1) (ds := signs u) (fun x => decide (0 < val l (sgn x))) (fun x => x) hi h16 hn (by simp [signs]; omega) (fun y hy => ?_) (fun y hy _ => ⟨.val y, rfl, ev_var (h16x _)⟩)
  · rw [filt_signs (fun x => decide (0 < val l x))] at q
    exact q
  · obtain ⟨x, hx, rfl⟩ := ab_all hu hy
    rw [if_neg (by decide)]
    have e : runE G (.cmp .gt (.idv 14 (.var 16)) (.cst (.int 0))) (ρ1.set 16 (.val (.str [x]))) = .ok (.val (.bl (decide (0 < val l x))), ρ1.set 16 (.val (.str [x]))) := by
      simp only [at_0, at_s, put_s, put_0v, put_0o, put_0n, d_val, d_own, d_ref, rvd_val, rvd_own, rvs_val, rvs_own, tru_bl, bin_add, bin_sub, k_of, k_ofD, k_ofB, k_var_v, k_var_o, sE_var, sE_cst, sE_glb, sE_bin, k_bin, k_bin2, sE_neg, k_neg, sE_cmp, k_cmp, k_cmp2, sE_chn, k_chn, k_chn2, k_chn3t, k_chn3f, sE_and, k_and, k_and_t, k_and_f, sE_or, k_or, k_or_t, k_or_f, sE_not, k_not, k_not2, sE_ite, k_ite, k_ite_t, k_ite_f, sE_tup, k_tup, k_tup2, sE_lst, k_lst, k_lst2, sE_idx, k_idx, k_idx2, sE_idv, k_idv, k_idv2, k_idv3, sO_nop, sO_var, sO_cst, sO_bin, sO_neg, sO_lenv, sO_idv, k_part, k_part2, part_int, sE_sli, k_sli, k_sli2, k_sli3, sE_lenv, k_len, sE_inv, k_inv, k_inv2, sE_cmv, k_cmv, k_cmv2, k_cmv3, sE_bi, k_bi, sE_joi, k_joi, k_joi2, List.length_cons, List.length_nil, lk0, lk1, lk2, lk3, lk4, lk5, lk6, lk7, lk8, lk9, lk10, lk11, lk12, lk13, lk14, lk15, lk16, lk17, lk18, lk19, arg_v, arg_o, sE_cal, k_cal, k_cal2, sE_car, k_car, k_car2, k_car3o, k_car3r, k_carO, k_carR, sE_isi, k_isi, sE_sme, k_sme, k_sme2, sE_dic, k_dic, k_dic2, k_dic3, sEs_nil, sEs_cons, k_es, k_es2, sI_frz, k_frz, k_it2, sI_rng, k_rng, items_str, items_lst, items_tup, k_put, sS_asg, k_asg, sS_par, k_par, sS_unp, k_unp, sS_exp, k_exp, sS_ret, k_ret, sS_ife, k_if, k_if_t, k_if_f, k_for, k_turn, k_loop_nx, k_loop_ct, k_loop_bk, k_loop_rt, k_whl, k_whl_t, k_whl_f, k_whl_nx, k_whl_ct, k_whl_bk, k_whl_rt, sS_brk, sS_cont, sS_pass, sS_aug, k_aug, k_aug2, k_aug3, sSs_nil, sSs_cons, k_seq_nx, k_seq_rt, k_seq_bk, k_seq_ct, sS_app, k_app, k_app2, k_app3o, k_app3r, sS_for, sS_whl, List.set_cons_succ, List.set_cons_zero, List.map_cons, List.map_nil, setAll, setT, setTs, Bool.false_eq_true, ↓reduceIte, Bool.not_true, Bool.not_false, Nat.reduceAdd, Nat.reduceLeDiff, decide_true, decide_false, h16x, h14, ld_at l hx, gt0]
    rw [e]; rfl
def lB : Ss := (.cons (.asg 14 (.idx (.cal 8 (.cons (.var 2) (.cons (.cst (.str [97, 98])) (.cons (.bin .sub (.bin .sub (.bin .add (.var 4) (.var 5)) (.var 17)) (.cst (.int 1))) .nil)))) (.neg (.cst (.int 1))))) (.cons (.asg 18 (.lc (.var 16) (.nm 16) (.frz (.joi (.cst (.str [])) (.lc (.idv 2 (.var 7)) (.nm 7) (.frz (.var 15)) .nop))) (.cmp .gt (.idv 14 (.var 16)) (.cst (.int 0))))) (.cons (.asg 15 (.joi (.cst (.str [])) (.sli (.var 18) (.bin .sub (.lenv 18) (.cst (.int 1))) .nop))) .nil)))
theorem lastL_len (l : Nat × Nat) (u : List Nat) : (lastL l u).length ≤ 1 := by unfold lastL; rw [List.length_drop]; omega
theorem lastL_AB {l : Nat × Nat} {u : List Nat} (h : AB u) : AB (lastL l u) := fun x hx => by
  unfold lastL at hx
  exact h x ((List.mem_filter.mp (List.mem_of_mem_drop hx)).1)
theorem flat_AB {g : Gs} (hg : g.Ok) {e : List Nat} : AB (e.flatMap g.at) := fun x hx => by
  obtain ⟨c, _, h⟩ := List.mem_flatMap.mp hx
  unfold Gs.at at h
  split at h
  · exact hg.a x h
  · exact hg.b x h
theorem flat_len {g : Gs} (hg : g.Ok) {e : List Nat} (h : e.length ≤ 1) : (e.flatMap g.at).length ≤ 3 := by
  match e, h with
  | [], _ => simp
  | [c], _ =>
    simp only [List.flatMap_cons, List.flatMap_nil, List.append_nil]
    unfold Gs.at
    split
    · exact hg.la
    · exact hg.lb
theorem turn_ok {G : Glo} (hR : RowsOk G) {ns : List Int} {d : D} {g : Gs} (hg : g.Ok) {w tb s8 s9 s10 s11 s12 s13 s14 s18 : Sl} {s7 s16 : Sl} (h7 : Sv s7) (h16 : Sv s16) {f s t k : Nat} (hm : t + 1 + k = f + s) (hm2 : f + s < 128) {e : List Nat} (he : AB e) (hl : e.length ≤ 1) :
    runSs G lB (en ns d (.val (gd g)) w (.val (.int (f : Int))) (.val (.int (s : Int))) tb s7 s8 s9 s10 s11 s12 s13 s14 (.val (.str e)) s16 (.val (.int (t : Int))) s18) = .ok (.nx (en ns d (.val (gd g)) w (.val (.int (f : Int))) (.val (.int (s : Int))) tb .no s8 s9 s10 s11 s12 s13 (.val (ld (g.lens k))) (.val (.str (lastL (g.lens k) (e.flatMap g.at)))) .no (.val (.int (t : Int))) (.val (.lst (signs ((e.flatMap g.at).filter fun x => decide (0 < val (g.lens k) x))))))) := by
  obtain ⟨ps, hr⟩ := hR g hg k (by omega)
  have hk : (f : Int) + (s : Int) - (t : Int) - 1 = (k : Int) := by omega
  have hneg : dNeg (.int 1) = some (.val (.int (-1))) := rfl
  unfold lB
  refine ss_cons (f1 := .nx (en ns d (.val (gd g)) w (.val (.int (f : Int))) (.val (.int (s : Int))) tb s7 s8 s9 s10 s11 s12 s13 (.val (ld (g.lens k))) (.val (.str e)) s16 (.val (.int (t : Int))) s18)) ?_ (seq_nx ?_)
  · unfold en
    simp only [at_0, at_s, put_s, put_0v, put_0o, put_0n, d_val, d_own, d_ref, rvd_val, rvd_own, rvs_val, rvs_own, tru_bl, bin_add, bin_sub, k_of, k_ofD, k_ofB, k_var_v, k_var_o, sE_var, sE_cst, sE_glb, sE_bin, k_bin, k_bin2, sE_neg, k_neg, sE_cmp, k_cmp, k_cmp2, sE_chn, k_chn, k_chn2, k_chn3t, k_chn3f, sE_and, k_and, k_and_t, k_and_f, sE_or, k_or, k_or_t, k_or_f, sE_not, k_not, k_not2, sE_ite, k_ite, k_ite_t, k_ite_f, sE_tup, k_tup, k_tup2, sE_lst, k_lst, k_lst2, sE_idx, k_idx, k_idx2, sE_idv, k_idv, k_idv2, k_idv3, sO_nop, sO_var, sO_cst, sO_bin, sO_neg, sO_lenv, sO_idv, k_part, k_part2, part_int, sE_sli, k_sli, k_sli2, k_sli3, sE_lenv, k_len, sE_inv, k_inv, k_inv2, sE_cmv, k_cmv, k_cmv2, k_cmv3, sE_bi, k_bi, sE_joi, k_joi, k_joi2, List.length_cons, List.length_nil, lk0, lk1, lk2, lk3, lk4, lk5, lk6, lk7, lk8, lk9, lk10, lk11, lk12, lk13, lk14, lk15, lk16, lk17, lk18, lk19, arg_v, arg_o, sE_cal, k_cal, k_cal2, sE_car, k_car, k_car2, k_car3o, k_car3r, k_carO, k_carR, sE_isi, k_isi, sE_sme, k_sme, k_sme2, sE_dic, k_dic, k_dic2, k_dic3, sEs_nil, sEs_cons, k_es, k_es2, sI_frz, k_frz, k_it2, sI_rng, k_rng, items_str, items_lst, items_tup, k_put, sS_asg, k_asg, sS_par, k_par, sS_unp, k_unp, sS_exp, k_exp, sS_ret, k_ret, sS_ife, k_if, k_if_t, k_if_f, k_for, k_turn, k_loop_nx, k_loop_ct, k_loop_bk, k_loop_rt, k_whl, k_whl_t, k_whl_f, k_whl_nx, k_whl_ct, k_whl_bk, k_whl_rt, sS_brk, sS_cont, sS_pass, sS_aug, k_aug, k_aug2, k_aug3, sSs_nil, sSs_cons, k_seq_nx, k_seq_rt, k_seq_bk, k_seq_ct, sS_app, k_app, k_app2, k_app3o, k_app3r, sS_for, sS_whl, List.set_cons_succ, List.set_cons_zero, List.map_cons, List.map_nil, setAll, setT, setTs, Bool.false_eq_true, ↓reduceIte, Bool.not_true, Bool.not_false, Nat.reduceAdd, Nat.reduceLeDiff, decide_true, decide_false, hk, hr, hneg, rows_last]
  have hlu := flat_len hg hl
  have q1 : runE G (.lc (.idv 2 (.var 7)) (.nm 7) (.frz (.var 15)) .nop) (en ns d (.val (gd g)) w (.val (.int (f : Int))) (.val (.int (s : Int))) tb s7 s8 s9 s10 s11 s12 s13 (.val (ld (g.lens k))) (.val (.str e)) s16 (.val (.int (t : Int))) s18) = .ok (.own (.lst (e.map fun c => D.str (g.at c))), en ns d (.val (gd g)) w (.val (.int (f : Int))) (.val (.int (s : Int))) tb .no s8 s9 s10 s11 s12 s13 (.val (ld (g.lens k))) (.val (.str e)) s16 (.val (.int (t : Int))) s18) := by
    have q := ev_lcv (G := G) (elt := .idv 2 (.var 7)) (c := .nop) (v := 6) (it := .frz (.var 15)) (ρ := en ns d (.val (gd g)) w (.val (.int (f : Int))) (.val (.int (s : Int))) tb s7 s8 s9 s10 s11 s12 s13 (.val (ld (g.lens k))) (.val (.str e)) s16 (.val (.int (t : Int))) s18) (ρ1 := en ns d (.val (gd g)) w (.val (.int (f : Int))) (.val (.int (s : Int))) tb s7 s8 s9 s10 s11 s12 s13 (.val (ld (g.lens k))) (.val (.str e)) s16 (.val (.int (t : Int))) s18) (ds := signs e) (fun _ => true) (fun x => .str (g.at (sgn x))) (ri_frz (x := .val (.str e)) (ev_var rfl) rfl) h7 (by simp [en]) (by simp [signs]; omega) (fun y hy => rfl) (fun y hy _ => ?_)
    · rw [filter_tt] at q
      rw [show (signs e).map (fun x => D.str (g.at (sgn x))) = e.map fun c => D.str (g.at c) by unfold signs; rw [List.map_map]; rfl] at q
      exact q
    · obtain ⟨x, hx, rfl⟩ := ab_all he hy
      exact ⟨.val (.str (g.at x)), rfl, ev_idv (d1 := gd g) (d2 := gd g) (y := .val (.str [x])) rfl (ev_var rfl) rfl (gd_at g hx)⟩
  have q2 := living (ρ := en ns d (.val (gd g)) w (.val (.int (f : Int))) (.val (.int (s : Int))) tb s7 s8 s9 s10 s11 s12 s13 (.val (ld (g.lens k))) (.val (.str e)) s16 (.val (.int (t : Int))) s18) (it := .frz (.joi (.cst (.str [])) (.lc (.idv 2 (.var 7)) (.nm 7) (.frz (.var 15)) .nop))) (ρ1 := en ns d (.val (gd g)) w (.val (.int (f : Int))) (.val (.int (s : Int))) tb .no s8 s9 s10 s11 s12 s13 (.val (ld (g.lens k))) (.val (.str e)) s16 (.val (.int (t : Int))) s18) (u := e.flatMap g.at) (flat_AB hg) (by omega) (l := g.lens k)
    (ri_frz (x := .val (.str (e.flatMap g.at))) (ev_joi (x := .val (.str [])) ev_cst q1 (joi_flat g (by omega))) rfl) h16 (fun x => rfl) (by simp [en])
  have hf : ((e.flatMap g.at).filter fun x => decide (0 < val (g.lens k) x)).length ≤ 3 := Nat.le_trans (List.length_filter_le _ _) hlu
  refine ss_cons (rs_asg q2 rfl) (seq_nx ?_)
  refine ss_cons (rs_asg (x := .val (.str (lastL (g.lens k) (e.flatMap g.at)))) (ρ1 := en ns d (.val (gd g)) w (.val (.int (f : Int))) (.val (.int (s : Int))) tb .no s8 s9 s10 s11 s12 s13 (.val (ld (g.lens k))) (.val (.str e)) .no (.val (.int (t : Int))) (.val (.lst (signs ((e.flatMap g.at).filter fun x => decide (0 < val (g.lens k) x)))))) ?_ rfl) (seq_nx ss_nil)
  refine ev_joi (x := .val (.str [])) (y := .own (.lst (signs (lastL (g.lens k) (e.flatMap g.at))))) ev_cst (ev_sli1 (x := .val (.lst (signs ((e.flatMap g.at).filter fun x => decide (0 < val (g.lens k) x))))) (y := .val (.int (((signs ((e.flatMap g.at).filter fun x => decide (0 < val (g.lens k) x))).length : Int) - 1))) rfl (ev_own rfl rfl) (ev_bin (x := .val (.int ((signs ((e.flatMap g.at).filter fun x => decide (0 < val (g.lens k) x))).length : Int))) (y := .val (.int 1)) (ev_lenv rfl rfl) ev_cst rfl) rfl ?_) (joi_signs (by have := lastL_len (g.lens k) (e.flatMap g.at); omega))
  show some (Rv.own (.lst (cut _ _ none))) = _
  rw [cut_last]
  unfold lastL signs
  rw [List.map_drop, List.length_map]
def rem (m k : Nat) : List D := (List.range k).map fun j => D.int (((m - k) + j : Nat) : Int)
theorem rem_succ {m k : Nat} (h : k + 1 ≤ m) : rem m (k + 1) = D.int ((m - (k + 1) : Nat) : Int) :: rem m k := by
  unfold rem
  rw [List.range_succ_eq_map, List.map_cons, List.map_map]
  congr 1
  apply List.map_congr_left
  intro j _
  simp only [Function.comp_apply]
  congr 2
  omega
theorem rem_all (m : Nat) : ranged 0 1 m = rem m m := by
  unfold ranged rem
  apply List.map_congr_left
  intro j _
  congr 1
  omega
theorem ends_loop {G : Glo} (hR : RowsOk G) {ns : List Int} {d : D} {g : Gs} (hg : g.Ok) {w tb s8 s9 s10 s11 s12 s13 : Sl} {f s : Nat} (hm2 : f + s < 128) : ∀ (k : Nat) (e : List Nat) (s7 s14 s16 s17 s18 : Sl), k ≤ f + s → Sv s7 → Sv s16 → AB e → e.length ≤ 1 → ∃ t7 t14 t16 t17 t18, Sv t7 ∧ Sv t16 ∧
    loopF (fun x ρ => (Res.of (setT (.nm 17) x ρ)).bind fun ρ1 => runSs G lB ρ1) (rem (f + s) k) (en ns d (.val (gd g)) w (.val (.int (f : Int))) (.val (.int (s : Int))) tb s7 s8 s9 s10 s11 s12 s13 s14 (.val (.str e)) s16 s17 s18) = .ok (.nx (en ns d (.val (gd g)) w (.val (.int (f : Int))) (.val (.int (s : Int))) tb t7 s8 s9 s10 s11 s12 s13 t14 (.val (.str (g.ends k e))) t16 t17 t18))
  | 0, e, s7, s14, s16, s17, s18, _, h7, h16, _, _ => ⟨s7, s14, s16, s17, s18, h7, h16, rfl⟩
  | k + 1, e, s7, s14, s16, s17, s18, hk, h7, h16, he, hl => by
    have q := turn_ok hR (ns := ns) (d := d) hg (w := w) (tb := tb) (s8 := s8) (s9 := s9) (s10 := s10) (s11 := s11) (s12 := s12) (s13 := s13) (s14 := s14) (s18 := s18) h7 h16 (f := f) (s := s) (t := f + s - (k + 1)) (k := k) (by omega) hm2 he hl
    obtain ⟨t7, t14, t16, t17, t18, v7, v16, q2⟩ := ends_loop hR (ns := ns) (d := d) hg (w := w) (tb := tb) (s8 := s8) (s9 := s9) (s10 := s10) (s11 := s11) (s12 := s12) (s13 := s13) (f := f) (s := s) hm2 k (lastL (g.lens k) (e.flatMap g.at)) .no (.val (ld (g.lens k))) .no (.val (.int ((f + s - (k + 1) : Nat) : Int))) (.val (.lst (signs ((e.flatMap g.at).filter fun x => decide (0 < val (g.lens k) x))))) (by omega) (.inl rfl) (.inl rfl) (lastL_AB (flat_AB hg)) (lastL_len _ _)
    refine ⟨t7, t14, t16, t17, t18, v7, v16, ?_⟩
    rw [rem_succ hk]
    have e1 : (Res.of (setT (.nm 17) (D.int ((f + s - (k + 1) : Nat) : Int)) (en ns d (.val (gd g)) w (.val (.int (f : Int))) (.val (.int (s : Int))) tb s7 s8 s9 s10 s11 s12 s13 s14 (.val (.str e)) s16 s17 s18))).bind (fun ρ1 => runSs G lB ρ1) = _ := body_set rfl q
    simp only [loopF, e1, Res.ok_bind]
    unfold Gs.ends
    exact q2
end GwK

set_option Elab.async false
set_option linter.all false
set_option maxRecDepth 100000
set_option maxHeartbeats 2000000
namespace GwK
open PySem L2 Gw Grow
/-- what the law's calls give -/
structure Calls (G : Glo) : Prop where
  rows : RowsOk G
  tab : ∀ g : Gs, ∃ ps, G.fn 3 [.val (gd g), .val (.str [97, 98])] = .ok (.val (mat g.tab), ps)
  cnt : ∀ g : Gs, g.Ok → ∀ w, AB w → w.length ≤ 3 → ∀ m : Nat, m < 128 → ∃ ps, G.fn 6 [.val (gd g), .val (.str [97, 98]), .val (.str w), .val (.int (m : Int))] = .ok (.val (.tup [.int (cntA g w m : Nat), .int (cntB g w m : Nat)]), ps)
  pow : ∀ g : Gs, g.Ok → ∀ m : Nat, m < 128 → ∃ ps, G.fn 5 [.val (mat g.tab), .val (.int (m : Int))] = .ok (.val (mat (g.tab.pow m)), ps)
  tim : ∀ (x y : M2) (j k : Nat), x.Lt j → y.Lt k → j + k < 500000 → ∃ ps, G.fn 4 [.val (mat x), .val (mat y)] = .ok (.val (mat (x.mul y)), ps)
  len : ∀ g : Gs, g.Ok → ∀ w, AB w → w.length ≤ 3 → ∀ m : Nat, m < 128 → ∃ ps, G.fn 7 [.val (gd g), .val (.str [97, 98]), .val (.str w), .val (.int (m : Int))] = .ok (.val (.int (tot (g.lens m) w : Nat)), ps)
  lett : ∀ g : Gs, g.Ok → ∀ w, AB w → ∀ m p : Nat, m < 128 → p ≤ 10 ^ 60 → ∃ ps, G.fn 9 [.val (gd g), .val (.str [97, 98]), .val (.str w), .val (.int (m : Int)), .val (.int (p : Int))] = .ok (.val (odL (g.letter m w p)), ps)
  word : ∀ (ns : List Int) (d : D), IsDice d → ∃ (w : List Nat) (d' : D), IsDice d' ∧ w.length ≤ 3 ∧ AB w ∧ ∀ ρ : List Sl, runE G (.car 12 1 (.cons (.cst (.int 3)) (.cons (.cst (.str [97, 98])) .nil))) (.val (.scr ns) :: .own d :: ρ) = .ok (.val (.str w), .val (.scr ns) :: .own d' :: ρ)
  num : ∀ (ns : List Int) (d : D), IsDice d → ∀ m : Nat, 0 < m → m < 1000 → ∃ (k : Nat) (d' : D), IsDice d' ∧ k < m ∧ ∀ ρ : List Sl, runE G (.car 11 1 (.cons (.cst (.int (m : Int))) .nil)) (.val (.scr ns) :: .own d :: ρ) = .ok (.val (.int (k : Int)), .val (.scr ns) :: .own d' :: ρ)
  numv : ∀ (ns : List Int) (d : D), IsDice d → ∀ m : Nat, 0 < m → m ≤ 3 ^ 100 → ∃ (k : Nat) (d' : D), IsDice d' ∧ k < m ∧ ∀ ρ : List Sl, Env.at (.val (.scr ns) :: .own d :: ρ) 11 = .val (.int (m : Int)) → runE G (.car 11 1 (.cons (.var 11) .nil)) (.val (.scr ns) :: .own d :: ρ) = .ok (.val (.int (k : Int)), .val (.scr ns) :: .own d' :: ρ)
def Shape (ns : List Int) (ρ : Gw.Env) : Prop := ∃ s1 s2 s3 s4 s5 s6 s7 s8 s9 s10 s11 s12 s13 s14 s15 s16 s17 s18, Sv s7 ∧ Sv s10 ∧ Sv s16 ∧ ρ = [.val (.scr ns), s1, s2, s3, s4, s5, s6, s7, s8, s9, s10, s11, s12, s13, s14, s15, s16, s17, s18]
theorem sE_dic' {G : Glo} {ρ : Gw.Env} {es : Es} : runE G (.dic es) ρ = (runEs G es ρ).bind fun p => (Res.of (pairsK (p.1.map Rv.d))).bind fun kvs => if decide (kvs.length ≤ 15) then .ok (.own (.dct (mergeD [] kvs)), p.2) else .stuck := by rw [runE]
theorem pairs_gd (wa wb : List Nat) : pairsK [.str [97], .str wa, .str [98], .str wb] = some [(.s [97], .str wa), (.s [98], .str wb)] := rfl
theorem merge_gd (wa wb : List Nat) : mergeD [] [(.s [97], .str wa), (.s [98], .str wb)] = [(.s [97], .str wa), (.s [98], .str wb)] := by rfl
/-- the first part: draws -/
theorem part1 {G : Glo} (C : Calls G) {ns : List Int} {d : D} (hd : IsDice d) (s2 s3 s4 s5 : Sl) (ρ : List Sl) : ∃ (g : Gs) (w : List Nat) (f s : Nat) (d' : D), g.Ok ∧ AB w ∧ w.length ≤ 3 ∧ f < 40 ∧ s < 60 ∧ IsDice d' ∧
    ∀ ss : Ss, runSs G (.cons (.asg 2 (.dic (.cons (.cst (.str [97])) (.cons (.car 12 1 (.cons (.cst (.int 3)) (.cons (.cst (.str [97, 98])) .nil))) (.cons (.cst (.str [98])) (.cons (.car 12 1 (.cons (.cst (.int 3)) (.cons (.cst (.str [97, 98])) .nil))) .nil)))))) (.cons (.par [3, 4, 5] (.cons (.car 12 1 (.cons (.cst (.int 3)) (.cons (.cst (.str [97, 98])) .nil))) (.cons (.car 11 1 (.cons (.cst (.int 40)) .nil)) (.cons (.car 11 1 (.cons (.cst (.int 60)) .nil)) .nil)))) ss)) (.val (.scr ns) :: .own d :: s2 :: s3 :: s4 :: s5 :: ρ) = runSs G ss (.val (.scr ns) :: .own d' :: .own (gd g) :: .val (.str w) :: .val (.int (f : Int)) :: .val (.int (s : Int)) :: ρ) := by
  obtain ⟨wa, d1, h1, la, aa, e1⟩ := C.word ns d hd
  obtain ⟨wb, d2, h2, lb, ab', e2⟩ := C.word ns d1 h1
  obtain ⟨w, d3, h3, lw, aw, e3⟩ := C.word ns d2 h2
  obtain ⟨f, d4, h4, hf, e4⟩ := C.num ns d3 h3 40 (by decide) (by decide)
  obtain ⟨s, d5, h5, hs, e5⟩ := C.num ns d4 h4 60 (by decide) (by decide)
  refine ⟨⟨wa, wb⟩, w, f, s, d5, ⟨aa, ab', la, lb⟩, aw, lw, hf, hs, h5, fun ss => ?_⟩
  have e4' : ∀ ρ : List Sl, runE G (.car 11 1 (.cons (.cst (.int 40)) .nil)) (.val (.scr ns) :: .own d3 :: ρ) = .ok (.val (.int (f : Int)), .val (.scr ns) :: .own d4 :: ρ) := e4
  have e5' : ∀ ρ : List Sl, runE G (.car 11 1 (.cons (.cst (.int 60)) .nil)) (.val (.scr ns) :: .own d4 :: ρ) = .ok (.val (.int (s : Int)), .val (.scr ns) :: .own d5 :: ρ) := e5
  have hl2 : decide (([(Ky.s [97], D.str wa), (Ky.s [98], D.str wb)] : List (Ky × D)).length ≤ 15) = true := rfl
  simp only [at_0, at_s, put_s, put_0v, put_0o, put_0n, d_val, d_own, d_ref, rvd_val, rvd_own, rvs_val, rvs_own, tru_bl, bin_add, bin_sub, k_of, k_ofD, k_ofB, k_var_v, k_var_o, sE_var, sE_cst, sE_glb, sE_bin, k_bin, k_bin2, sE_neg, k_neg, sE_cmp, k_cmp, k_cmp2, sE_chn, k_chn, k_chn2, k_chn3t, k_chn3f, sE_and, k_and, k_and_t, k_and_f, sE_or, k_or, k_or_t, k_or_f, sE_not, k_not, k_not2, sE_ite, k_ite, k_ite_t, k_ite_f, sE_tup, k_tup, k_tup2, sE_lst, k_lst, k_lst2, sE_idx, k_idx, k_idx2, sE_idv, k_idv, k_idv2, k_idv3, sO_nop, sO_var, sO_cst, sO_bin, sO_neg, sO_lenv, sO_idv, k_part, k_part2, part_int, sE_sli, k_sli, k_sli2, k_sli3, sE_lenv, k_len, sE_inv, k_inv, k_inv2, sE_cmv, k_cmv, k_cmv2, k_cmv3, sE_bi, k_bi, sE_joi, k_joi, k_joi2, List.length_cons, List.length_nil, lk0, lk1, lk2, lk3, lk4, lk5, lk6, lk7, lk8, lk9, lk10, lk11, lk12, lk13, lk14, lk15, lk16, lk17, lk18, lk19, arg_v, arg_o, sE_cal, k_cal, k_cal2, sE_car, k_car, k_car2, k_car3o, k_car3r, k_carO, k_carR, sE_isi, k_isi, sE_sme, k_sme, k_sme2, sE_dic, k_dic, k_dic2, k_dic3, sEs_nil, sEs_cons, k_es, k_es2, sI_frz, k_frz, k_it2, sI_rng, k_rng, items_str, items_lst, items_tup, k_put, sS_asg, k_asg, sS_par, k_par, sS_unp, k_unp, sS_exp, k_exp, sS_ret, k_ret, sS_ife, k_if, k_if_t, k_if_f, k_for, k_turn, k_loop_nx, k_loop_ct, k_loop_bk, k_loop_rt, k_whl, k_whl_t, k_whl_f, k_whl_nx, k_whl_ct, k_whl_bk, k_whl_rt, sS_brk, sS_cont, sS_pass, sS_aug, k_aug, k_aug2, k_aug3, sSs_nil, sSs_cons, k_seq_nx, k_seq_rt, k_seq_bk, k_seq_ct, sS_app, k_app, k_app2, k_app3o, k_app3r, sS_for, sS_whl, List.set_cons_succ, List.set_cons_zero, List.map_cons, List.map_nil, setAll, setT, setTs, Bool.false_eq_true, ↓reduceIte, Bool.not_true, Bool.not_false, Nat.reduceAdd, Nat.reduceLeDiff, decide_true, decide_false, e1, e2, e3, e4', e5', pairs_gd, merge_gd, hl2]
  rfl
end GwK

set_option Elab.async false
set_option linter.all false
set_option maxRecDepth 100000
set_option maxHeartbeats 4000000
namespace GwK
open PySem L2 Gw Grow
theorem cnt_add (g : Gs) (w : List Nat) (f s : Nat) : (g.tab.pow s).a * cntA g w f + (g.tab.pow s).b * cntB g w f = cntA g w (f + s) ∧ (g.tab.pow s).c * cntA g w f + (g.tab.pow s).d * cntB g w f = cntB g w (f + s) := by
  unfold cntA cntB
  rw [Nat.add_comm f s, M2.pow_add]
  unfold M2.mul
  constructor <;> simp only [] <;> grind
theorem cnt_lt (g : Gs) (hg : g.Ok) {w : List Nat} (hw : AB w) (hl : w.length ≤ 3) {m : Nat} (hm : m < 100) : cntA g w m < 2 ^ 400 ∧ cntB g w m < 2 ^ 400 := by
  have h1 := whole_is g hg hw m
  have h2 := tot_small g hg hl hm
  have h3 : (3 : Nat) ^ 100 < 2 ^ 400 := by decide
  omega
theorem pow_lt (g : Gs) (hg : g.Ok) {m : Nat} (hm : m < 100) : (g.tab.pow m).Lt 400 := (tab_lt g hg m).mono (by omega)
theorem bi_tup {l : List D} : dBi .tuple [.lst l] = some (.val (.tup l)) := id rfl
theorem bi_sum2 {a b : Nat} : dBi .sum [.tup [.int (a : Int), .int (b : Int)]] = some (.val (.int ((a + b : Nat) : Int))) := by
  simp [dBi, dInts]
theorem int_ne (a : Int) : dCmp .ne (.int a) (.int a) = some false := by simp [dCmp, dEqO, D.scal, D.flat, D.eqb]
theorem one_ne (g : Gs) : dCmp .ne (mat (g.tab.pow 0)) (.tup [.tup [.int 1, .int 0], .tup [.int 0, .int 1]]) = some false := mat_ne (g.tab.pow 0)
theorem notn (d : D) : dCmp .notnone d .non = some (!d.isNon) := by cases d <;> rfl
theorem part2 {G : Glo} (C : Calls G) {ns : List Int} {d : D} {g : Gs} (hg : g.Ok) {w : List Nat} (hw : AB w) (hl : w.length ≤ 3) {f s : Nat} (hf : f < 40) (hs : s < 60) (s6 s7 s8 s9 s10 s11 : Sl) (h10 : Sv s10) (ρ : List Sl) (ss : Ss) :
    runSs G (.cons (.asg 6 (.cal 3 (.cons (.var 2) (.cons (.cst (.str [97, 98])) .nil)))) (.cons (.unp (.tu [(.nm 7), (.nm 8)]) (.tup (.cons (.cal 6 (.cons (.var 2) (.cons (.cst (.str [97, 98])) (.cons (.var 3) (.cons (.var 4) .nil))))) (.cons (.cal 6 (.cons (.var 2) (.cons (.cst (.str [97, 98])) (.cons (.var 3) (.cons (.bin .add (.var 4) (.var 5)) .nil))))) .nil)))) (.cons (.asg 9 (.cal 5 (.cons (.var 6) (.cons (.var 5) .nil)))) (.cons (.ife (.cmv .ne 8 (.bi .tuple (.cons (.lc (.bin .add (.bin .mul (.idv 10 (.cst (.int 0))) (.idv 7 (.cst (.int 0)))) (.bin .mul (.idv 10 (.cst (.int 1))) (.idv 7 (.cst (.int 1))))) (.nm 10) (.frz (.var 9)) .nop) .nil))) (.cons (.ret (.cst (.bl false))) .nil) .nil) (.cons (.ife (.cmp .ne (.cal 5 (.cons (.var 6) (.cons (.bin .add (.var 4) (.var 5)) .nil))) (.cal 4 (.cons (.cal 5 (.cons (.var 6) (.cons (.var 4) .nil))) (.cons (.var 9) .nil)))) (.cons (.ret (.cst (.bl false))) .nil) .nil) (.cons (.asg 11 (.cal 7 (.cons (.var 2) (.cons (.cst (.str [97, 98])) (.cons (.var 3) (.cons (.bin .add (.var 4) (.var 5)) .nil)))))) (.cons (.ife (.or (.cmv .ne 11 (.bi .sum (.cons (.var 8) .nil))) (.or (.cmp .ne (.cal 5 (.cons (.var 6) (.cons (.cst (.int 0)) .nil))) (.tup (.cons (.tup (.cons (.cst (.int 1)) (.cons (.cst (.int 0)) .nil))) (.cons (.tup (.cons (.cst (.int 0)) (.cons (.cst (.int 1)) .nil))) .nil)))) (.cmp .ne (.cal 5 (.cons (.var 6) (.cons (.cst (.int 1)) .nil))) (.var 6)))) (.cons (.ret (.cst (.bl false))) .nil) .nil) (.cons (.ife (.cmp .notnone (.cal 9 (.cons (.var 2) (.cons (.cst (.str [97, 98])) (.cons (.var 3) (.cons (.bin .add (.var 4) (.var 5)) (.cons (.var 11) .nil)))))) (.cst .non)) (.cons (.ret (.cst (.bl false))) .nil) .nil) ss)))))))) (.val (.scr ns) :: .own d :: .own (gd g) :: .val (.str w) :: .val (.int (f : Int)) :: .val (.int (s : Int)) :: s6 :: s7 :: s8 :: s9 :: s10 :: s11 :: ρ)
    = runSs G ss (.val (.scr ns) :: .own d :: .val (gd g) :: .val (.str w) :: .val (.int (f : Int)) :: .val (.int (s : Int)) :: .val (mat g.tab) :: .val (.tup [.int (cntA g w f : Nat), .int (cntB g w f : Nat)]) :: .val (.tup [.int (cntA g w (f + s) : Nat), .int (cntB g w (f + s) : Nat)]) :: .val (mat (g.tab.pow s)) :: .no :: .val (.int (tot (g.lens (f + s)) w : Nat)) :: ρ) := by
  obtain ⟨p1, e1⟩ := C.tab g
  obtain ⟨p2, e2⟩ := C.cnt g hg w hw hl f (by omega)
  obtain ⟨p3, e3⟩ := C.cnt g hg w hw hl (f + s) (by omega)
  obtain ⟨p4, e4⟩ := C.pow g hg s (by omega)
  obtain ⟨p5, e5⟩ := C.pow g hg f (by omega)
  obtain ⟨p6, e6⟩ := C.pow g hg (f + s) (by omega)
  obtain ⟨p7, e7⟩ := C.tim (g.tab.pow f) (g.tab.pow s) _ _ (pow_lt g hg (by omega)) (pow_lt g hg (by omega)) (by omega)
  obtain ⟨p8, e8⟩ := C.len g hg w hw hl (f + s) (by omega)
  obtain ⟨p9, e9⟩ := C.pow g hg 0 (by omega)
  obtain ⟨p10, e10⟩ := C.pow g hg 1 (by omega)
  have hsm := tot_small g hg hl (m := f + s) (by omega)
  have h60 : (3 : Nat) ^ 100 ≤ 10 ^ 60 := by decide
  obtain ⟨p11, e11⟩ := C.lett g hg w hw (f + s) (tot (g.lens (f + s)) w) (by omega) (by omega)
  rw [letter_none g (Nat.le_refl _)] at e11
  have e9' : G.fn 5 [.val (mat g.tab), .val (.int 0)] = .ok (.val (mat (g.tab.pow 0)), p9) := e9
  have e10' : G.fn 5 [.val (mat g.tab), .val (.int 1)] = .ok (.val (mat g.tab), p10) := by
    have := e10
    rw [M2.pow_one] at this
    exact this
  have hfs : (f : Int) + (s : Int) = ((f + s : Nat) : Int) := by omega
  rw [← M2.pow_add] at e7
  have q1 : ∀ x y z : Sl, runE G (.lc (.bin .add (.bin .mul (.idv 10 (.cst (.int 0))) (.idv 7 (.cst (.int 0)))) (.bin .mul (.idv 10 (.cst (.int 1))) (.idv 7 (.cst (.int 1))))) (.nm 10) (.frz (.var 9)) .nop) (.val (.scr ns) :: .own d :: .val (gd g) :: .val (.str w) :: .val (.int (f : Int)) :: .val (.int (s : Int)) :: x :: .val (.tup [.int (cntA g w f : Nat), .int (cntB g w f : Nat)]) :: y :: .val (mat (g.tab.pow s)) :: s10 :: z :: ρ)
      = .ok (.own (.lst [.int (cntA g w (f + s) : Nat), .int (cntB g w (f + s) : Nat)]), (.val (.scr ns) :: .own d :: .val (gd g) :: .val (.str w) :: .val (.int (f : Int)) :: .val (.int (s : Int)) :: x :: .val (.tup [.int (cntA g w f : Nat), .int (cntB g w f : Nat)]) :: y :: .val (mat (g.tab.pow s)) :: .no :: z :: ρ)) := fun x y z => by
    have q := ev_lcv (G := G) (elt := (.bin .add (.bin .mul (.idv 10 (.cst (.int 0))) (.idv 7 (.cst (.int 0)))) (.bin .mul (.idv 10 (.cst (.int 1))) (.idv 7 (.cst (.int 1)))))) (c := .nop) (v := 9) (it := .frz (.var 9)) (ρ := (.val (.scr ns) :: .own d :: .val (gd g) :: .val (.str w) :: .val (.int (f : Int)) :: .val (.int (s : Int)) :: x :: .val (.tup [.int (cntA g w f : Nat), .int (cntB g w f : Nat)]) :: y :: .val (mat (g.tab.pow s)) :: s10 :: z :: ρ)) (ρ1 := (.val (.scr ns) :: .own d :: .val (gd g) :: .val (.str w) :: .val (.int (f : Int)) :: .val (.int (s : Int)) :: x :: .val (.tup [.int (cntA g w f : Nat), .int (cntB g w f : Nat)]) :: y :: .val (mat (g.tab.pow s)) :: s10 :: z :: ρ)) (ds := [.tup [.int (g.tab.pow s).a, .int (g.tab.pow s).b], .tup [.int (g.tab.pow s).c, .int (g.tab.pow s).d]]) (fun _ => true) (fun z => match z with
        | .tup [.int p, .int q] => .int (((p.toNat * cntA g w f : Nat) : Int) + ((q.toNat * cntB g w f : Nat) : Int))
        | _ => .non) (ri_frz (x := .val (mat (g.tab.pow s))) (ev_var rfl) rfl) h10 (by simp) (by simp) (fun _ _ => rfl) (fun t ht _ => ?_)
    · rw [filter_tt] at q
      obtain ⟨c1, c2⟩ := cnt_add g w f s
      have r1 : (((g.tab.pow s).a * cntA g w f : Nat) : Int) + (((g.tab.pow s).b * cntB g w f : Nat) : Int) = ((cntA g w (f + s) : Nat) : Int) := by rw [← c1, Int.natCast_add]
      have r2 : (((g.tab.pow s).c * cntA g w f : Nat) : Int) + (((g.tab.pow s).d * cntB g w f : Nat) : Int) = ((cntB g w (f + s) : Nat) : Int) := by rw [← c2, Int.natCast_add]
      simp only [List.map_cons, List.map_nil, Int.toNat_natCast, r1, r2] at q
      exact q
    · have key : ∀ p q : Nat, p < 2 ^ 400 → q < 2 ^ 400 → runE G (.bin .add (.bin .mul (.idv 10 (.cst (.int 0))) (.idv 7 (.cst (.int 0)))) (.bin .mul (.idv 10 (.cst (.int 1))) (.idv 7 (.cst (.int 1))))) (.val (.scr ns) :: .own d :: .val (gd g) :: .val (.str w) :: .val (.int (f : Int)) :: .val (.int (s : Int)) :: x :: .val (.tup [.int (cntA g w f : Nat), .int (cntB g w f : Nat)]) :: y :: .val (mat (g.tab.pow s)) :: .val (.tup [.int (p : Int), .int (q : Int)]) :: z :: ρ) = .ok (.val (.int (((p * cntA g w f : Nat) : Int) + ((q * cntB g w f : Nat) : Int))), (.val (.scr ns) :: .own d :: .val (gd g) :: .val (.str w) :: .val (.int (f : Int)) :: .val (.int (s : Int)) :: x :: .val (.tup [.int (cntA g w f : Nat), .int (cntB g w f : Nat)]) :: y :: .val (mat (g.tab.pow s)) :: .val (.tup [.int (p : Int), .int (q : Int)]) :: z :: ρ)) := fun p q hp hq => by
        have i0 : ∀ a b : Int, dIdx (.tup [.int a, .int b]) (.int 0) = some (.int a) := fun _ _ => id rfl
        have i1 : ∀ a b : Int, dIdx (.tup [.int a, .int b]) (.int 1) = some (.int b) := fun _ _ => id rfl
        obtain ⟨l1, l2⟩ := cnt_lt g hg hw hl (m := f) (by omega)
        simp only [at_0, at_s, put_s, put_0v, put_0o, put_0n, d_val, d_own, d_ref, rvd_val, rvd_own, rvs_val, rvs_own, tru_bl, bin_add, bin_sub, k_of, k_ofD, k_ofB, k_var_v, k_var_o, sE_var, sE_cst, sE_glb, sE_bin, k_bin, k_bin2, sE_neg, k_neg, sE_cmp, k_cmp, k_cmp2, sE_chn, k_chn, k_chn2, k_chn3t, k_chn3f, sE_and, k_and, k_and_t, k_and_f, sE_or, k_or, k_or_t, k_or_f, sE_not, k_not, k_not2, sE_ite, k_ite, k_ite_t, k_ite_f, sE_tup, k_tup, k_tup2, sE_lst, k_lst, k_lst2, sE_idx, k_idx, k_idx2, sE_idv, k_idv, k_idv2, k_idv3, sO_nop, sO_var, sO_cst, sO_bin, sO_neg, sO_lenv, sO_idv, k_part, k_part2, part_int, sE_sli, k_sli, k_sli2, k_sli3, sE_lenv, k_len, sE_inv, k_inv, k_inv2, sE_cmv, k_cmv, k_cmv2, k_cmv3, sE_bi, k_bi, sE_joi, k_joi, k_joi2, List.length_cons, List.length_nil, lk0, lk1, lk2, lk3, lk4, lk5, lk6, lk7, lk8, lk9, lk10, lk11, lk12, lk13, lk14, lk15, lk16, lk17, lk18, lk19, arg_v, arg_o, sE_cal, k_cal, k_cal2, sE_car, k_car, k_car2, k_car3o, k_car3r, k_carO, k_carR, sE_isi, k_isi, sE_sme, k_sme, k_sme2, sE_dic, k_dic, k_dic2, k_dic3, sEs_nil, sEs_cons, k_es, k_es2, sI_frz, k_frz, k_it2, sI_rng, k_rng, items_str, items_lst, items_tup, k_put, sS_asg, k_asg, sS_par, k_par, sS_unp, k_unp, sS_exp, k_exp, sS_ret, k_ret, sS_ife, k_if, k_if_t, k_if_f, k_for, k_turn, k_loop_nx, k_loop_ct, k_loop_bk, k_loop_rt, k_whl, k_whl_t, k_whl_f, k_whl_nx, k_whl_ct, k_whl_bk, k_whl_rt, sS_brk, sS_cont, sS_pass, sS_aug, k_aug, k_aug2, k_aug3, sSs_nil, sSs_cons, k_seq_nx, k_seq_rt, k_seq_bk, k_seq_ct, sS_app, k_app, k_app2, k_app3o, k_app3r, sS_for, sS_whl, List.set_cons_succ, List.set_cons_zero, List.map_cons, List.map_nil, setAll, setT, setTs, Bool.false_eq_true, ↓reduceIte, Bool.not_true, Bool.not_false, Nat.reduceAdd, Nat.reduceLeDiff, decide_true, decide_false, i0, i1, mul_big hp l1, mul_big hq l2]
      have P := pow_lt g hg (m := s) (by omega)
      have ht : t = .tup [.int (g.tab.pow s).a, .int (g.tab.pow s).b] ∨ t = .tup [.int (g.tab.pow s).c, .int (g.tab.pow s).d] := by simpa using ht
      rcases ht with rfl | rfl
      · exact ⟨_, by simp only [rvd_val, Int.toNat_natCast], key _ _ P.a P.b⟩
      · exact ⟨_, by simp only [rvd_val, Int.toNat_natCast], key _ _ P.c P.d⟩
  have nn : (D.non).isNon = true := rfl
  simp only [at_0, at_s, put_s, put_0v, put_0o, put_0n, d_val, d_own, d_ref, rvd_val, rvd_own, rvs_val, rvs_own, tru_bl, bin_add, bin_sub, k_of, k_ofD, k_ofB, k_var_v, k_var_o, sE_var, sE_cst, sE_glb, sE_bin, k_bin, k_bin2, sE_neg, k_neg, sE_cmp, k_cmp, k_cmp2, sE_chn, k_chn, k_chn2, k_chn3t, k_chn3f, sE_and, k_and, k_and_t, k_and_f, sE_or, k_or, k_or_t, k_or_f, sE_not, k_not, k_not2, sE_ite, k_ite, k_ite_t, k_ite_f, sE_tup, k_tup, k_tup2, sE_lst, k_lst, k_lst2, sE_idx, k_idx, k_idx2, sE_idv, k_idv, k_idv2, k_idv3, sO_nop, sO_var, sO_cst, sO_bin, sO_neg, sO_lenv, sO_idv, k_part, k_part2, part_int, sE_sli, k_sli, k_sli2, k_sli3, sE_lenv, k_len, sE_inv, k_inv, k_inv2, sE_cmv, k_cmv, k_cmv2, k_cmv3, sE_bi, k_bi, sE_joi, k_joi, k_joi2, List.length_cons, List.length_nil, lk0, lk1, lk2, lk3, lk4, lk5, lk6, lk7, lk8, lk9, lk10, lk11, lk12, lk13, lk14, lk15, lk16, lk17, lk18, lk19, arg_v, arg_o, sE_cal, k_cal, k_cal2, sE_car, k_car, k_car2, k_car3o, k_car3r, k_carO, k_carR, sE_isi, k_isi, sE_sme, k_sme, k_sme2, sE_dic, k_dic, k_dic2, k_dic3, sEs_nil, sEs_cons, k_es, k_es2, sI_frz, k_frz, k_it2, sI_rng, k_rng, items_str, items_lst, items_tup, k_put, sS_asg, k_asg, sS_par, k_par, sS_unp, k_unp, sS_exp, k_exp, sS_ret, k_ret, sS_ife, k_if, k_if_t, k_if_f, k_for, k_turn, k_loop_nx, k_loop_ct, k_loop_bk, k_loop_rt, k_whl, k_whl_t, k_whl_f, k_whl_nx, k_whl_ct, k_whl_bk, k_whl_rt, sS_brk, sS_cont, sS_pass, sS_aug, k_aug, k_aug2, k_aug3, sSs_nil, sSs_cons, k_seq_nx, k_seq_rt, k_seq_bk, k_seq_ct, sS_app, k_app, k_app2, k_app3o, k_app3r, sS_for, sS_whl, List.set_cons_succ, List.set_cons_zero, List.map_cons, List.map_nil, setAll, setT, setTs, Bool.false_eq_true, ↓reduceIte, Bool.not_true, Bool.not_false, Nat.reduceAdd, Nat.reduceLeDiff, decide_true, decide_false, e1, e2, e3, e4, e5, e6, e7, e8, e9', e10', e11, hfs, q1, tup_ne, mat_ne, bi_tup, bi_sum2, one_ne, notn, whole_is g hg hw, int_ne, odL, nn]
end GwK

set_option Elab.async false
set_option linter.all false
set_option maxRecDepth 100000
set_option maxHeartbeats 4000000
namespace GwK
open PySem L2 Gw Grow
theorem notin_ab {x : Nat} (h : x = 97 ∨ x = 98) : dCmp .notin (.str [x]) (.lst [.str [97], .str [98]]) = some false := by
  rcases h with rfl | rfl <;> rfl
theorem inR_nat {m : Nat} (h : m < 4611686018427387904) : inR (m : Int) = true := by
  unfold inR
  rw [Bool.and_eq_true]
  exact ⟨decide_eq_true (by omega), decide_eq_true (by omega)⟩
theorem rng_nat {m : Nat} (h : m < 4611686018427387904) : dRange [.int (m : Int)] = some (ranged 0 1 m) := by
  simp only [dRange, inR_nat h, if_true, Int.toNat_natCast]
theorem cut_str {l : List Nat} (h : l.length ≤ 16777216) : dCut (.str l) (some ((l.length : Int) - 1)) none = some (.val (.str (l.drop (l.length - 1)))) := by
  rw [dCut_str h, cut_last]
theorem neg1 : dNeg (.int 1) = some (.val (.int (-1))) := id rfl
theorem part3 {G : Glo} (C : Calls G) {ns : List Int} {d : D} (hd : IsDice d) {g : Gs} (hg : g.Ok) {w : List Nat} (hw : AB w) (hl : w.length ≤ 3) {f s : Nat} (hf : f < 40) (hs : s < 60) (s6 s7 s8 s9 s10 s12 s13 s14 s15 s16 s17 s18 : Sl) (h7 : Sv s7) (h10 : Sv s10) (h16 : Sv s16) :
    ∃ ρ', runSs G (.cons (.ife (.cmv .gt 11 (.cst (.int 0))) (.cons (.asg 12 (.car 11 1 (.cons (.var 11) .nil))) (.cons (.ife (.cmp .notin (.cal 9 (.cons (.var 2) (.cons (.cst (.str [97, 98])) (.cons (.var 3) (.cons (.bin .add (.var 4) (.var 5)) (.cons (.var 12) .nil)))))) (.lst (.cons (.cst (.str [97])) (.cons (.cst (.str [98])) .nil)))) (.cons (.ret (.cst (.bl false))) .nil) .nil) (.cons (.asg 13 (.cal 9 (.cons (.var 2) (.cons (.cst (.str [97, 98])) (.cons (.var 3) (.cons (.bin .add (.var 4) (.var 5)) (.cons (.bin .sub (.var 11) (.cst (.int 1))) .nil))))))) (.cons (.asg 14 (.idx (.cal 8 (.cons (.var 2) (.cons (.cst (.str [97, 98])) (.cons (.bin .add (.var 4) (.var 5)) .nil)))) (.neg (.cst (.int 1))))) (.cons (.asg 15 (.joi (.cst (.str [])) (.lc (.var 16) (.nm 16) (.frz (.var 3)) (.cmp .gt (.idv 14 (.var 16)) (.cst (.int 0)))))) (.cons (.asg 15 (.sli (.var 15) (.bin .sub (.lenv 15) (.cst (.int 1))) .nop)) (.cons (.fors (.nm 17) (.rng (.cons (.bin .add (.var 4) (.var 5)) .nil)) (.cons (.asg 14 (.idx (.cal 8 (.cons (.var 2) (.cons (.cst (.str [97, 98])) (.cons (.bin .sub (.bin .sub (.bin .add (.var 4) (.var 5)) (.var 17)) (.cst (.int 1))) .nil)))) (.neg (.cst (.int 1))))) (.cons (.asg 18 (.lc (.var 16) (.nm 16) (.frz (.joi (.cst (.str [])) (.lc (.idv 2 (.var 7)) (.nm 7) (.frz (.var 15)) .nop))) (.cmp .gt (.idv 14 (.var 16)) (.cst (.int 0))))) (.cons (.asg 15 (.joi (.cst (.str [])) (.sli (.var 18) (.bin .sub (.lenv 18) (.cst (.int 1))) .nop))) .nil)))) (.cons (.ife (.cmv .ne 15 (.var 13)) (.cons (.ret (.cst (.bl false))) .nil) .nil) .nil)))))))) .nil) .nil) [.val (.scr ns), .own d, .val (gd g), .val (.str w), .val (.int (f : Int)), .val (.int (s : Int)), s6, s7, s8, s9, s10, .val (.int (tot (g.lens (f + s)) w : Nat)), s12, s13, s14, s15, s16, s17, s18] = .ok (.nx ρ') ∧ Shape ns ρ' := by
  have hfs : (f : Int) + (s : Int) = ((f + s : Nat) : Int) := by omega
  have hsm := tot_small g hg hl (m := f + s) (by omega)
  have h60 : (3 : Nat) ^ 100 ≤ 10 ^ 60 := by decide
  have hm : f + s < 100 := by omega
  generalize hmm : f + s = m at *
  generalize hT : tot (g.lens m) w = T at *
  by_cases h0 : 0 < T
  · obtain ⟨k, d', hd', hk, e1⟩ := C.numv ns d hd T h0 hsm
    obtain ⟨p2, e2⟩ := C.lett g hg w hw m k (by omega) (by omega)
    obtain ⟨x, hx, hx2⟩ := letter_some g hg (n := m) (p := k) hw (by rw [hT]; exact hk)
    rw [hx] at e2
    obtain ⟨p3, e3⟩ := C.lett g hg w hw m (T - 1) (by omega) (by omega)
    obtain ⟨y, hy, hy2⟩ := letter_last g (n := m) (w := w) (by rw [hT]; exact h0)
    rw [hT] at hy
    rw [hy] at e3
    obtain ⟨p4, e4⟩ := C.rows g hg m (by omega)
    have e5 := fun z => e1 [.val (gd g), .val (.str w), .val (.int (f : Int)), .val (.int (s : Int)), s6, s7, s8, s9, s10, .val (.int (T : Int)), z, s13, s14, s15, s16, s17, s18] rfl
    have hdec : decide (0 < T) = true := decide_eq_true h0
    have hT1 : (T : Int) - 1 = ((T - 1 : Nat) : Int) := by omega
    have q1 := living (G := G) (ρ := [.val (.scr ns), .own d', .val (gd g), .val (.str w), .val (.int (f : Int)), .val (.int (s : Int)), s6, s7, s8, s9, s10, .val (.int (T : Int)), .val (.int (k : Int)), .val (.str [y]), .val (ld (g.lens m)), s15, s16, s17, s18]) (it := .frz (.var 3)) (ρ1 := [.val (.scr ns), .own d', .val (gd g), .val (.str w), .val (.int (f : Int)), .val (.int (s : Int)), s6, s7, s8, s9, s10, .val (.int (T : Int)), .val (.int (k : Int)), .val (.str [y]), .val (ld (g.lens m)), s15, s16, s17, s18]) (u := w) hw (by omega) (l := g.lens m) (ri_frz (x := .val (.str w)) (ev_var rfl) rfl) h16 (fun x => rfl) (by simp)
    have hfl : (w.filter fun x => decide (0 < val (g.lens m) x)).length ≤ 3 := Nat.le_trans (List.length_filter_le _ _) hl
    have hj := joi_signs (u := w.filter fun x => decide (0 < val (g.lens m) x)) (by omega)
    have hlen := dBi_len_str (a := w.filter fun x => decide (0 < val (g.lens m) x)) (by omega)
    have hcut := cut_str (l := w.filter fun x => decide (0 < val (g.lens m) x)) (by omega)
    rw [show (w.filter fun x => decide (0 < val (g.lens m) x)).drop ((w.filter fun x => decide (0 < val (g.lens m) x)).length - 1) = lastL (g.lens m) w from rfl] at hcut
    generalize (w.filter fun x => decide (0 < val (g.lens m) x)) = u0 at *
    obtain ⟨t7, t14, t16, t17, t18, v7, v16, q2⟩ := ends_loop C.rows (ns := ns) (d := d') hg (w := .val (.str w)) (tb := s6) (s8 := s8) (s9 := s9) (s10 := s10) (s11 := .val (.int (T : Int))) (s12 := .val (.int (k : Int))) (s13 := .val (.str [y])) (f := f) (s := s) (by omega) m (lastL (g.lens m) w) s7 (.val (ld (g.lens m))) .no s17 s18 (by omega) h7 (.inl rfl) (lastL_AB hw) (lastL_len _ _)
    rw [hmm, hy2] at q2
    have q3 : forF G (.nm 17) lB (rem m m) (en ns d' (.val (gd g)) (.val (.str w)) (.val (.int (f : Int))) (.val (.int (s : Int))) s6 s7 s8 s9 s10 (.val (.int (T : Int))) (.val (.int (k : Int))) (.val (.str [y])) (.val (ld (g.lens m))) (.val (.str (lastL (g.lens m) w))) .no s17 s18) = _ := q2
    unfold lB en at q3
    have hr := rng_nat (m := m) (by omega)
    rw [rem_all] at hr
    refine ⟨[.val (.scr ns), .own d', .val (gd g), .val (.str w), .val (.int (f : Int)), .val (.int (s : Int)), s6, t7, s8, s9, s10, .val (.int (T : Int)), .val (.int (k : Int)), .val (.str [y]), t14, .val (.str [y]), t16, t17, t18], ?_, _, _, _, _, _, _, t7, _, _, s10, _, _, _, _, _, t16, _, _, v7, h10, v16, rfl⟩
    simp only [at_0, at_s, put_s, put_0v, put_0o, put_0n, d_val, d_own, d_ref, rvd_val, rvd_own, rvs_val, rvs_own, tru_bl, bin_add, bin_sub, k_of, k_ofD, k_ofB, k_var_v, k_var_o, sE_var, sE_cst, sE_glb, sE_bin, k_bin, k_bin2, sE_neg, k_neg, sE_cmp, k_cmp, k_cmp2, sE_chn, k_chn, k_chn2, k_chn3t, k_chn3f, sE_and, k_and, k_and_t, k_and_f, sE_or, k_or, k_or_t, k_or_f, sE_not, k_not, k_not2, sE_ite, k_ite, k_ite_t, k_ite_f, sE_tup, k_tup, k_tup2, sE_lst, k_lst, k_lst2, sE_idx, k_idx, k_idx2, sE_idv, k_idv, k_idv2, k_idv3, sO_nop, sO_var, sO_cst, sO_bin, sO_neg, sO_lenv, sO_idv, k_part, k_part2, part_int, sE_sli, k_sli, k_sli2, k_sli3, sE_lenv, k_len, sE_inv, k_inv, k_inv2, sE_cmv, k_cmv, k_cmv2, k_cmv3, sE_bi, k_bi, sE_joi, k_joi, k_joi2, List.length_cons, List.length_nil, lk0, lk1, lk2, lk3, lk4, lk5, lk6, lk7, lk8, lk9, lk10, lk11, lk12, lk13, lk14, lk15, lk16, lk17, lk18, lk19, arg_v, arg_o, sE_cal, k_cal, k_cal2, sE_car, k_car, k_car2, k_car3o, k_car3r, k_carO, k_carR, sE_isi, k_isi, sE_sme, k_sme, k_sme2, sE_dic, k_dic, k_dic2, k_dic3, sEs_nil, sEs_cons, k_es, k_es2, sI_frz, k_frz, k_it2, sI_rng, k_rng, items_str, items_lst, items_tup, k_put, sS_asg, k_asg, sS_par, k_par, sS_unp, k_unp, sS_exp, k_exp, sS_ret, k_ret, sS_ife, k_if, k_if_t, k_if_f, k_for, k_turn, k_loop_nx, k_loop_ct, k_loop_bk, k_loop_rt, k_whl, k_whl_t, k_whl_f, k_whl_nx, k_whl_ct, k_whl_bk, k_whl_rt, sS_brk, sS_cont, sS_pass, sS_aug, k_aug, k_aug2, k_aug3, sSs_nil, sSs_cons, k_seq_nx, k_seq_rt, k_seq_bk, k_seq_ct, sS_app, k_app, k_app2, k_app3o, k_app3r, sS_for, sS_whl, List.set_cons_succ, List.set_cons_zero, List.map_cons, List.map_nil, setAll, setT, setTs, Bool.false_eq_true, ↓reduceIte, Bool.not_true, Bool.not_false, Nat.reduceAdd, Nat.reduceLeDiff, decide_true, decide_false, gt0, hdec, e5, hfs, e2, odL, notin_ab hx2, hT1, e3, e4, neg1, rows_last, q1, hj, hlen, hcut, hr, q3, str_ne]
  · have hdec : decide (0 < T) = false := decide_eq_false h0
    refine ⟨[.val (.scr ns), .own d, .val (gd g), .val (.str w), .val (.int (f : Int)), .val (.int (s : Int)), s6, s7, s8, s9, s10, .val (.int (T : Int)), s12, s13, s14, s15, s16, s17, s18], ?_, _, _, _, _, _, _, s7, _, _, s10, _, _, _, _, _, s16, _, _, h7, h10, h16, rfl⟩
    simp only [at_0, at_s, put_s, put_0v, put_0o, put_0n, d_val, d_own, d_ref, rvd_val, rvd_own, rvs_val, rvs_own, tru_bl, bin_add, bin_sub, k_of, k_ofD, k_ofB, k_var_v, k_var_o, sE_var, sE_cst, sE_glb, sE_bin, k_bin, k_bin2, sE_neg, k_neg, sE_cmp, k_cmp, k_cmp2, sE_chn, k_chn, k_chn2, k_chn3t, k_chn3f, sE_and, k_and, k_and_t, k_and_f, sE_or, k_or, k_or_t, k_or_f, sE_not, k_not, k_not2, sE_ite, k_ite, k_ite_t, k_ite_f, sE_tup, k_tup, k_tup2, sE_lst, k_lst, k_lst2, sE_idx, k_idx, k_idx2, sE_idv, k_idv, k_idv2, k_idv3, sO_nop, sO_var, sO_cst, sO_bin, sO_neg, sO_lenv, sO_idv, k_part, k_part2, part_int, sE_sli, k_sli, k_sli2, k_sli3, sE_lenv, k_len, sE_inv, k_inv, k_inv2, sE_cmv, k_cmv, k_cmv2, k_cmv3, sE_bi, k_bi, sE_joi, k_joi, k_joi2, List.length_cons, List.length_nil, lk0, lk1, lk2, lk3, lk4, lk5, lk6, lk7, lk8, lk9, lk10, lk11, lk12, lk13, lk14, lk15, lk16, lk17, lk18, lk19, arg_v, arg_o, sE_cal, k_cal, k_cal2, sE_car, k_car, k_car2, k_car3o, k_car3r, k_carO, k_carR, sE_isi, k_isi, sE_sme, k_sme, k_sme2, sE_dic, k_dic, k_dic2, k_dic3, sEs_nil, sEs_cons, k_es, k_es2, sI_frz, k_frz, k_it2, sI_rng, k_rng, items_str, items_lst, items_tup, k_put, sS_asg, k_asg, sS_par, k_par, sS_unp, k_unp, sS_exp, k_exp, sS_ret, k_ret, sS_ife, k_if, k_if_t, k_if_f, k_for, k_turn, k_loop_nx, k_loop_ct, k_loop_bk, k_loop_rt, k_whl, k_whl_t, k_whl_f, k_whl_nx, k_whl_ct, k_whl_bk, k_whl_rt, sS_brk, sS_cont, sS_pass, sS_aug, k_aug, k_aug2, k_aug3, sSs_nil, sSs_cons, k_seq_nx, k_seq_rt, k_seq_bk, k_seq_ct, sS_app, k_app, k_app2, k_app3o, k_app3r, sS_for, sS_whl, List.set_cons_succ, List.set_cons_zero, List.map_cons, List.map_nil, setAll, setT, setTs, Bool.false_eq_true, ↓reduceIte, Bool.not_true, Bool.not_false, Nat.reduceAdd, Nat.reduceLeDiff, decide_true, decide_false, gt0, hdec]
theorem body_okG {G : Glo} (C : Calls G) (ns : List Int) (c : Int) (ρ : Gw.Env) (h : Shape ns ρ) : ∃ ρ', runSs G ir_law (ρ.set 1 (.own (diceD c))) = .ok (.nx ρ') ∧ Shape ns ρ' := by
  obtain ⟨s1, s2, s3, s4, s5, s6, s7, s8, s9, s10, s11, s12, s13, s14, s15, s16, s17, s18, h7, h10, h16, rfl⟩ := h
  obtain ⟨g, w, f, s, d', hg, hw, hl, hf, hs, hd', e1⟩ := part1 C (ns := ns) (dice_is c) s2 s3 s4 s5 [s6, s7, s8, s9, s10, s11, s12, s13, s14, s15, s16, s17, s18]
  obtain ⟨ρ', e3, e4⟩ := part3 C (ns := ns) hd' hg hw hl hf hs (.val (mat g.tab)) (.val (.tup [.int (cntA g w f : Nat), .int (cntB g w f : Nat)])) (.val (.tup [.int (cntA g w (f + s) : Nat), .int (cntB g w (f + s) : Nat)])) (.val (mat (g.tab.pow s))) .no s12 s13 s14 s15 s16 s17 s18 (.inr ⟨_, rfl⟩) (.inl rfl) h16
  refine ⟨ρ', ?_, e4⟩
  show runSs G ir_law [.val (.scr ns), .own (diceD c), s2, s3, s4, s5, s6, s7, s8, s9, s10, s11, s12, s13, s14, s15, s16, s17, s18] = _
  unfold ir_law
  rw [e1, part2 C hg hw hl hf hs s6 s7 s8 s9 s10 s11 h10, e3]
theorem shape0 (ns : List Int) : Shape ns (.val (.scr ns) :: List.replicate 18 .no) := ⟨.no, .no, .no, .no, .no, .no, .no, .no, .no, .no, .no, .no, .no, .no, .no, .no, .no, .no, .inl rfl, .inl rfl, .inl rfl, rfl⟩
end GwK

set_option Elab.async false
set_option linter.all false
set_option maxRecDepth 100000
set_option maxHeartbeats 4000000
namespace GwK
open PySem L2 Gw Grow
theorem g3 : GL.fn 3 = Ph (9 + 1) 3 := rfl
theorem g4 : GL.fn 4 = (GG (9 + 1)).fn 4 := rfl
theorem g5 : GL.fn 5 = (GG (8 + 2)).fn 5 := rfl
theorem g6 : GL.fn 6 = Ph (7 + 3) 6 := rfl
theorem g7 : GL.fn 7 = Ph (6 + 4) 7 := rfl
theorem g8 : GL.fn 8 = Ph (9 + 1) 8 := rfl
theorem g9 : GL.fn 9 = Ph (7 + 3) 9 := rfl
theorem calls : Calls GL where
  rows := fun g hg m hm => by rw [g8]; exact run_lengths hg hm
  tab := fun g => ⟨_, by rw [g3]; exact call_table (n := 9)⟩
  cnt := fun g hg w hw hl m hm => by rw [g6]; exact run_counts_after hg hw (by omega) hm
  pow := fun g hg m hm => by rw [g5]; exact pow_call hg hm
  tim := fun x y j k hx hy hj => by
    have q := call_times (n := 9) (x := x) (y := y) (j := j) (k := k) hx hy hj
    rw [g4]
    exact ⟨_, q⟩
  len := fun g hg w hw hl m hm => by rw [g7]; exact run_length_after hg hw (by omega) hm
  lett := fun g hg w hw m p hm hp => by rw [g9]; exact run_letter hg hw hm hp
  word := fun ns d hd => by
    obtain ⟨w, d', h1, h2, h3, h4⟩ := run_word (G := GG 9) (R := 11) m11 hd (m := 3) (ls := [97, 98]) (by decide) (by decide) (by decide) (by decide)
    refine ⟨w, d', h1, by omega, fun c hc => by simpa using h3 c hc, fun ρ => ?_⟩
    exact ev_carO (d := d) (d1 := d) (d2 := d') (r := .val (.str w)) (rs := [.val (.int 3), .val (.str [97, 98])]) (ps := [.val (.int 3), .val (.str [97, 98])]) rfl (es_cons ev_cst (es_cons ev_cst es_nil)) rfl h4 rfl
  num := fun ns d hd m h0 hm => by
    obtain ⟨r, d', h1, h2, h3, h4⟩ := run_rollW (GG 9) hd (m := (m : Int)) (by omega) (wideDiv_small (by omega) (by omega))
    obtain ⟨k, rfl⟩ := Int.eq_ofNat_of_zero_le h2
    refine ⟨k, d', h1, by omega, fun ρ => ?_⟩
    exact ev_carO (d := d) (d1 := d) (d2 := d') (r := .val (.int (k : Int))) (rs := [.val (.int (m : Int))]) (ps := [.val (.int (m : Int))]) rfl (es_cons ev_cst es_nil) rfl h4 rfl
  numv := fun ns d hd m h0 hm => by
    obtain ⟨r, d', h1, h2, h3, h4⟩ := run_rollW (GG 9) hd (m := (m : Int)) (by omega) (wide_of hm)
    obtain ⟨k, rfl⟩ := Int.eq_ofNat_of_zero_le h2
    refine ⟨k, d', h1, by omega, fun ρ hρ => ?_⟩
    exact ev_carO (d := d) (d1 := d) (d2 := d') (r := .val (.int (k : Int))) (rs := [.val (.int (m : Int))]) (ps := [.val (.int (m : Int))]) rfl (es_cons (ev_var hρ) es_nil) rfl h4 rfl
theorem law_runs : ∀ ns : List Int, ns.length ≤ 63 → LawRuns ⟨Phi dfs cst 10, cst⟩ (17 + 2) lawN ir_law ir_lawE ns := by
  intro ns _
  obtain ⟨ρ', h1, _⟩ := loopL_inv (Shape ns) (body_okG calls ns) (cellsOf ns lawN) (.val (.scr ns) :: List.replicate 18 .no) (shape0 ns)
  exact ⟨ρ', ρ', h1, ev_cst⟩
def cstD_TURNS : Option D := some (.int 1000)
end GwK

set_option Elab.async false
set_option linter.all false
set_option maxRecDepth 100000
set_option maxHeartbeats 4000000
namespace GwK
open PySem L2 Gw
def sts : Nat → Stmt
  | 0 => topS 5
  | 1 => topS 6
  | 2 => topS 9
  | 3 => topS 10
  | 4 => topS 11
  | 5 => topS 12
  | 6 => topS 13
  | 7 => topS 14
  | 8 => topS 15
  | 9 => topS 16
  | 10 => topS 18
  | 11 => topS 19
  | 12 => topS 21
  | _ => topS 21
set_option maxHeartbeats 0 in
theorem facts {w : World} {q : Program} {K : PySem.W.Frag} {h : Heap} {mg : Str → Option Value} {fa f1 f2 f3 f4 f5 f6 f7 f8 f9 f10 f11 f12 f13 f14 f15 : Addr} (X : K.In h) (G : h.Ns mainGlobals mg) (hfa : mg "law" = some (.ref fa)) (tin : TabsIn q K mg h)
    {od1 an1 : Option Addr} {sl1 : Array (Option Value)} {oc1 kV1 dc1 pm1 ct1 : Value} {cd1 : Value}
    (a1 : PySem.W.nsIn K mainGlobals "is_whole" = some (some (.ref f1))) (l1 : K.lookup f1 = some ⟨oc1, od1, .func (PySem.W.fnOf "is_whole" "is_whole" (defArgs (topS 5)) (defBody (topS 5)) (defScope (topS 5)) .none kV1 dc1 pm1 an1 cd1 ct1), sl1⟩) (c1 : PySem.W.codeIn K cd1 "is_whole" = true) (k1 : PySem.W.keepIn K (.ref f1) = true)
    {od2 an2 : Option Addr} {sl2 : Array (Option Value)} {oc2 kV2 dc2 pm2 ct2 : Value} {cd2 : Value}
    (a2 : PySem.W.nsIn K mainGlobals "check_whole" = some (some (.ref f2))) (l2 : K.lookup f2 = some ⟨oc2, od2, .func (PySem.W.fnOf "check_whole" "check_whole" (defArgs (topS 6)) (defBody (topS 6)) (defScope (topS 6)) .none kV2 dc2 pm2 an2 cd2 ct2), sl2⟩) (c2 : PySem.W.codeIn K cd2 "check_whole" = true) (k2 : PySem.W.keepIn K (.ref f2) = true)
    {od3 an3 : Option Addr} {sl3 : Array (Option Value)} {oc3 kV3 dc3 pm3 ct3 : Value} {cd3 : Value}
    (a3 : PySem.W.nsIn K mainGlobals "counts" = some (some (.ref f3))) (l3 : K.lookup f3 = some ⟨oc3, od3, .func (PySem.W.fnOf "counts" "counts" (defArgs (topS 9)) (defBody (topS 9)) (defScope (topS 9)) .none kV3 dc3 pm3 an3 cd3 ct3), sl3⟩) (c3 : PySem.W.codeIn K cd3 "counts" = true) (k3 : PySem.W.keepIn K (.ref f3) = true)
    {od4 an4 : Option Addr} {sl4 : Array (Option Value)} {oc4 kV4 dc4 pm4 ct4 : Value} {cd4 : Value}
    (a4 : PySem.W.nsIn K mainGlobals "table_of" = some (some (.ref f4))) (l4 : K.lookup f4 = some ⟨oc4, od4, .func (PySem.W.fnOf "table_of" "table_of" (defArgs (topS 10)) (defBody (topS 10)) (defScope (topS 10)) .none kV4 dc4 pm4 an4 cd4 ct4), sl4⟩) (c4 : PySem.W.codeIn K cd4 "table_of" = true) (k4 : PySem.W.keepIn K (.ref f4) = true)
    {od5 an5 : Option Addr} {sl5 : Array (Option Value)} {oc5 kV5 dc5 pm5 ct5 : Value} {cc5 : Addr}
    (a5 : PySem.W.nsIn K mainGlobals "times" = some (some (.ref f5))) (l5 : K.lookup f5 = some ⟨oc5, od5, .func (PySem.W.fnOf "times" "times" (defArgs (topS 11)) (defBody (topS 11)) (defScope (topS 11)) .none kV5 dc5 pm5 an5 (.ref cc5) ct5), sl5⟩) (c5 : PySem.W.codeIn K (.ref cc5) "times" = true) (k5 : PySem.W.keepIn K (.ref f5) = true)
    {P5 : Addr} {e5 : Value} {dd5 : Option Addr} {vs5 : Array Value} {sc5 : Array (Option Value)} (lc5 : K.lookup cc5 = some ⟨e5, dd5, .fields vs5, sc5⟩) (vv5 : vs5[11]? = some (.ref P5)) (nP5 : K.lookup P5 = none) (rq5 : ((PyProof.Rows.recsOf q).any fun e => e.name == ("times" : Str)) = true)
    {od6 an6 : Option Addr} {sl6 : Array (Option Value)} {oc6 kV6 dc6 pm6 ct6 : Value} {cd6 : Value}
    (a6 : PySem.W.nsIn K mainGlobals "table_power" = some (some (.ref f6))) (l6 : K.lookup f6 = some ⟨oc6, od6, .func (PySem.W.fnOf "table_power" "table_power" (defArgs (topS 12)) (defBody (topS 12)) (defScope (topS 12)) .none kV6 dc6 pm6 an6 cd6 ct6), sl6⟩) (c6 : PySem.W.codeIn K cd6 "table_power" = true) (k6 : PySem.W.keepIn K (.ref f6) = true)
    {od7 an7 : Option Addr} {sl7 : Array (Option Value)} {oc7 kV7 dc7 pm7 ct7 : Value} {cc7 : Addr}
    (a7 : PySem.W.nsIn K mainGlobals "counts_after" = some (some (.ref f7))) (l7 : K.lookup f7 = some ⟨oc7, od7, .func (PySem.W.fnOf "counts_after" "counts_after" (defArgs (topS 13)) (defBody (topS 13)) (defScope (topS 13)) .none kV7 dc7 pm7 an7 (.ref cc7) ct7), sl7⟩) (c7 : PySem.W.codeIn K (.ref cc7) "counts_after" = true) (k7 : PySem.W.keepIn K (.ref f7) = true)
    {P7 : Addr} {e7 : Value} {dd7 : Option Addr} {vs7 : Array Value} {sc7 : Array (Option Value)} (lc7 : K.lookup cc7 = some ⟨e7, dd7, .fields vs7, sc7⟩) (vv7 : vs7[11]? = some (.ref P7)) (nP7 : K.lookup P7 = none) (rq7 : ((PyProof.Rows.recsOf q).any fun e => e.name == ("counts_after" : Str)) = true)
    {od8 an8 : Option Addr} {sl8 : Array (Option Value)} {oc8 kV8 dc8 pm8 ct8 : Value} {cd8 : Value}
    (a8 : PySem.W.nsIn K mainGlobals "length_after" = some (some (.ref f8))) (l8 : K.lookup f8 = some ⟨oc8, od8, .func (PySem.W.fnOf "length_after" "length_after" (defArgs (topS 14)) (defBody (topS 14)) (defScope (topS 14)) .none kV8 dc8 pm8 an8 cd8 ct8), sl8⟩) (c8 : PySem.W.codeIn K cd8 "length_after" = true) (k8 : PySem.W.keepIn K (.ref f8) = true)
    {od9 an9 : Option Addr} {sl9 : Array (Option Value)} {oc9 kV9 dc9 pm9 ct9 : Value} {cc9 : Addr}
    (a9 : PySem.W.nsIn K mainGlobals "lengths_table" = some (some (.ref f9))) (l9 : K.lookup f9 = some ⟨oc9, od9, .func (PySem.W.fnOf "lengths_table" "lengths_table" (defArgs (topS 15)) (defBody (topS 15)) (defScope (topS 15)) .none kV9 dc9 pm9 an9 (.ref cc9) ct9), sl9⟩) (c9 : PySem.W.codeIn K (.ref cc9) "lengths_table" = true) (k9 : PySem.W.keepIn K (.ref f9) = true)
    {P9 : Addr} {e9 : Value} {dd9 : Option Addr} {vs9 : Array Value} {sc9 : Array (Option Value)} (lc9 : K.lookup cc9 = some ⟨e9, dd9, .fields vs9, sc9⟩) (vv9 : vs9[11]? = some (.ref P9)) (nP9 : K.lookup P9 = none) (rq9 : ((PyProof.Rows.recsOf q).any fun e => e.name == ("lengths_table" : Str)) = true)
    {od10 an10 : Option Addr} {sl10 : Array (Option Value)} {oc10 kV10 dc10 pm10 ct10 : Value} {cd10 : Value}
    (a10 : PySem.W.nsIn K mainGlobals "letter_after" = some (some (.ref f10))) (l10 : K.lookup f10 = some ⟨oc10, od10, .func (PySem.W.fnOf "letter_after" "letter_after" (defArgs (topS 16)) (defBody (topS 16)) (defScope (topS 16)) .none kV10 dc10 pm10 an10 cd10 ct10), sl10⟩) (c10 : PySem.W.codeIn K cd10 "letter_after" = true) (k10 : PySem.W.keepIn K (.ref f10) = true)
    {od11 an11 : Option Addr} {sl11 : Array (Option Value)} {oc11 kV11 dc11 pm11 ct11 : Value} {cd11 : Value}
    (a11 : PySem.W.nsIn K mainGlobals "_law_dice" = some (some (.ref f11))) (l11 : K.lookup f11 = some ⟨oc11, od11, .func (PySem.W.fnOf "_law_dice" "_law_dice" (defArgs (topS 18)) (defBody (topS 18)) (defScope (topS 18)) .none kV11 dc11 pm11 an11 cd11 ct11), sl11⟩) (c11 : PySem.W.codeIn K cd11 "_law_dice" = true) (k11 : PySem.W.keepIn K (.ref f11) = true)
    {od12 an12 : Option Addr} {sl12 : Array (Option Value)} {oc12 kV12 dc12 pm12 ct12 : Value} {cd12 : Value}
    (a12 : PySem.W.nsIn K mainGlobals "_law_roll" = some (some (.ref f12))) (l12 : K.lookup f12 = some ⟨oc12, od12, .func (PySem.W.fnOf "_law_roll" "_law_roll" (defArgs (topS 19)) (defBody (topS 19)) (defScope (topS 19)) .none kV12 dc12 pm12 an12 cd12 ct12), sl12⟩) (c12 : PySem.W.codeIn K cd12 "_law_roll" = true) (k12 : PySem.W.keepIn K (.ref f12) = true)
    {od13 an13 : Option Addr} {sl13 : Array (Option Value)} {oc13 kV13 dc13 pm13 ct13 : Value} {cd13 : Value}
    (a13 : PySem.W.nsIn K mainGlobals "_law_word" = some (some (.ref f13))) (l13 : K.lookup f13 = some ⟨oc13, od13, .func (PySem.W.fnOf "_law_word" "_law_word" (defArgs (topS 21)) (defBody (topS 21)) (defScope (topS 21)) .none kV13 dc13 pm13 an13 cd13 ct13), sl13⟩) (c13 : PySem.W.codeIn K cd13 "_law_word" = true) (k13 : PySem.W.keepIn K (.ref f13) = true)
    {od14 an14 : Option Addr} {sl14 : Array (Option Value)} {oc14 kV14 dc14 pm14 ct14 : Value} {cd14 : Value}
    (a14 : PySem.W.nsIn K mainGlobals "_law_rounds" = some (some (.ref f14))) (l14 : K.lookup f14 = some ⟨oc14, od14, .func (PySem.W.fnOf "_law_rounds" "_law_rounds" (defArgs (topS 20)) (defBody (topS 20)) (defScope (topS 20)) .none kV14 dc14 pm14 an14 cd14 ct14), sl14⟩) (c14 : PySem.W.codeIn K cd14 "_law_rounds" = true) (k14 : PySem.W.keepIn K (.ref f14) = true)
    {od15 an15 : Option Addr} {sl15 : Array (Option Value)} {oc15 kV15 dc15 pm15 ct15 : Value} {cd15 : Value}
    (a15 : PySem.W.nsIn K mainGlobals "law" = some (some (.ref f15))) (l15 : K.lookup f15 = some ⟨oc15, od15, .func (PySem.W.fnOf "law" "law" (defArgs (topS 22)) (defBody (topS 22)) (defScope (topS 22)) .none kV15 dc15 pm15 an15 cd15 ct15), sl15⟩) (c15 : PySem.W.codeIn K cd15 "law" = true) (k15 : PySem.W.keepIn K (.ref f15) = true)
    (z_len : PySem.W.nsIn K mainGlobals "len" = some none)
    (z_abs : PySem.W.nsIn K mainGlobals "abs" = some none)
    (z_int : PySem.W.nsIn K mainGlobals "int" = some none)
    (z_min : PySem.W.nsIn K mainGlobals "min" = some none)
    (z_max : PySem.W.nsIn K mainGlobals "max" = some none)
    (z_tuple : PySem.W.nsIn K mainGlobals "tuple" = some none)
    (z_list : PySem.W.nsIn K mainGlobals "list" = some none)
    (z_sorted : PySem.W.nsIn K mainGlobals "sorted" = some none)
    (z_sum : PySem.W.nsIn K mainGlobals "sum" = some none)
    (z_range : PySem.W.nsIn K mainGlobals "range" = some none)
    (z_reversed : PySem.W.nsIn K mainGlobals "reversed" = some none)
    (z_all : PySem.W.nsIn K mainGlobals "all" = some none)
    (z_any : PySem.W.nsIn K mainGlobals "any" = some none)
    (z_enumerate : PySem.W.nsIn K mainGlobals "enumerate" = some none)
    (z_zip : PySem.W.nsIn K mainGlobals "zip" = some none)
    (z_isinstance : PySem.W.nsIn K mainGlobals "isinstance" = some none)
    (z_bool : PySem.W.nsIn K mainGlobals "bool" = some none)
    (z_dict : PySem.W.nsIn K mainGlobals "dict" = some none)
    (z_set : PySem.W.nsIn K mainGlobals "set" = some none)
    (z_str : PySem.W.nsIn K mainGlobals "str" = some none)
    {u_TURNS : Value} (g_TURNS : PySem.W.nsIn K mainGlobals "TURNS" = some (some u_TURNS)) (v_TURNS : cstIs u_TURNS = cstD_TURNS)
    : LamX.LawAtS PySem.Challenge.rw_gardenworks_k07_far_turns_without_growin w K CX0 22 63 "script" mg fa h := by
  have e := hfa.symm.trans (PySem.W.mg_of X G a15)
  cases e
  have F1 := fun_mk (st := (topS 5)) l1 c1 k1
  have F2 := fun_mk (st := (topS 6)) l2 c2 k2
  have F3 := fun_mk (st := (topS 9)) l3 c3 k3
  have F4 := fun_mk (st := (topS 10)) l4 c4 k4
  have F5 := fun_mk (st := (topS 11)) l5 c5 k5
  have F6 := fun_mk (st := (topS 12)) l6 c6 k6
  have F7 := fun_mk (st := (topS 13)) l7 c7 k7
  have F8 := fun_mk (st := (topS 14)) l8 c8 k8
  have F9 := fun_mk (st := (topS 15)) l9 c9 k9
  have F10 := fun_mk (st := (topS 16)) l10 c10 k10
  have F11 := fun_mk (st := (topS 18)) l11 c11 k11
  have F12 := fun_mk (st := (topS 19)) l12 c12 k12
  have F13 := fun_mk (st := (topS 21)) l13 c13 k13
  have F14 := fun_mk (st := (topS 20)) l14 c14 k14
  have F15 := fun_mk (st := (topS 22)) l15 c15 k15
  have t5 := tin "times" _ _ _ _ _ _ _ _ _ rq5 (PySem.W.mg_of X G a5) l5 rfl rfl lc5 vv5
  have t7 := tin "counts_after" _ _ _ _ _ _ _ _ _ rq7 (PySem.W.mg_of X G a7) l7 rfl rfl lc7 vv7
  have t9 := tin "lengths_table" _ _ _ _ _ _ _ _ _ rq9 (PySem.W.mg_of X G a9) l9 rfl rfl lc9 vv9
  have b1 := F1.binds (ps := ["thing", "low", "high"]) fun _ _ _ _ _ _ us hl => match us, hl with | [_, _, _], _ => rfl
  have b2 := F2.binds (ps := ["thing", "low", "high"]) fun _ _ _ _ _ _ us hl => match us, hl with | [_, _, _], _ => rfl
  have b3 := F3.binds (ps := ["letters", "word"]) fun _ _ _ _ _ _ us hl => match us, hl with | [_, _], _ => rfl
  have b4 := F4.binds (ps := ["growths", "letters"]) fun _ _ _ _ _ _ us hl => match us, hl with | [_, _], _ => rfl
  have b5 := F5.binds (ps := ["one", "other"]) fun _ _ _ _ _ _ us hl => match us, hl with | [_, _], _ => rfl
  have b6 := F6.binds (ps := ["table", "many"]) fun _ _ _ _ _ _ us hl => match us, hl with | [_, _], _ => rfl
  have b7 := F7.binds (ps := ["growths", "letters", "word", "turns"]) fun _ _ _ _ _ _ us hl => match us, hl with | [_, _, _, _], _ => rfl
  have b8 := F8.binds (ps := ["growths", "letters", "word", "turns"]) fun _ _ _ _ _ _ us hl => match us, hl with | [_, _, _, _], _ => rfl
  have b9 := F9.binds (ps := ["growths", "letters", "turns"]) fun _ _ _ _ _ _ us hl => match us, hl with | [_, _, _], _ => rfl
  have b10 := F10.binds (ps := ["growths", "letters", "word", "turns", "place"]) fun _ _ _ _ _ _ us hl => match us, hl with | [_, _, _, _, _], _ => rfl
  have b11 := F11.binds (ps := ["cell"]) fun _ _ _ _ _ _ us hl => match us, hl with | [_], _ => rfl
  have b12 := F12.binds (ps := ["dice", "many"]) fun _ _ _ _ _ _ us hl => match us, hl with | [_, _], _ => rfl
  have b13 := F13.binds (ps := ["dice", "most", "letters"]) fun _ _ _ _ _ _ us hl => match us, hl with | [_, _, _], _ => rfl
  have b14 := F14.binds (ps := ["script", "most"]) fun _ _ _ _ _ _ us hl => match us, hl with | [_, _], _ => rfl
  refine ⟨PySem.W.fnOf "law" "law" (defArgs (topS 22)) (defBody (topS 22)) (defScope (topS 22)) .none kV15 dc15 pm15 an15 cd15 ct15, [(cc5, P5), (cc7, P7), (cc9, P9)], spL K [P5, P7, P9], fun p hp => (by
    simp only [List.mem_cons, List.not_mem_nil, or_false] at hp
    rcases hp with rfl | rfl | rfl
    · exact t5.2
    · exact t7.2
    · exact t9.2), fun p hp => (by
    simp only [List.mem_cons, List.not_mem_nil, or_false] at hp
    rcases hp with rfl | rfl | rfl
    · exact nP5
    · exact nP7
    · exact nP9), fun p hp => (by
    simp only [List.mem_cons, List.not_mem_nil, or_false] at hp
    rcases hp with rfl | rfl | rfl
    · exact t5.1
    · exact t7.1
    · exact t9.1), fun s v => .of_eq rfl, fun H a ns hl _ hT hS => start_okG (cs := [(cc5, P5), (cc7, P7), (cc9, P9)]) H a ns hl hT hS, fun base _ _ TB => ?_⟩
  have T : Text K mg base [P5, P7, P9] gi dfs cst sts (fun f => match f with
      | 0 => f1
      | 1 => f2
      | 2 => f3
      | 3 => f4
      | 4 => f5
      | 5 => f6
      | 6 => f7
      | 7 => f8
      | 8 => f9
      | 9 => f10
      | 10 => f11
      | 11 => f12
      | 12 => f13
      | _ => f13) (fun f => match f with
      | 0 => PySem.W.fnOf "is_whole" "is_whole" (defArgs (topS 5)) (defBody (topS 5)) (defScope (topS 5)) .none kV1 dc1 pm1 an1 cd1 ct1
      | 1 => PySem.W.fnOf "check_whole" "check_whole" (defArgs (topS 6)) (defBody (topS 6)) (defScope (topS 6)) .none kV2 dc2 pm2 an2 cd2 ct2
      | 2 => PySem.W.fnOf "counts" "counts" (defArgs (topS 9)) (defBody (topS 9)) (defScope (topS 9)) .none kV3 dc3 pm3 an3 cd3 ct3
      | 3 => PySem.W.fnOf "table_of" "table_of" (defArgs (topS 10)) (defBody (topS 10)) (defScope (topS 10)) .none kV4 dc4 pm4 an4 cd4 ct4
      | 4 => PySem.W.fnOf "times" "times" (defArgs (topS 11)) (defBody (topS 11)) (defScope (topS 11)) .none kV5 dc5 pm5 an5 (.ref cc5) ct5
      | 5 => PySem.W.fnOf "table_power" "table_power" (defArgs (topS 12)) (defBody (topS 12)) (defScope (topS 12)) .none kV6 dc6 pm6 an6 cd6 ct6
      | 6 => PySem.W.fnOf "counts_after" "counts_after" (defArgs (topS 13)) (defBody (topS 13)) (defScope (topS 13)) .none kV7 dc7 pm7 an7 (.ref cc7) ct7
      | 7 => PySem.W.fnOf "length_after" "length_after" (defArgs (topS 14)) (defBody (topS 14)) (defScope (topS 14)) .none kV8 dc8 pm8 an8 cd8 ct8
      | 8 => PySem.W.fnOf "lengths_table" "lengths_table" (defArgs (topS 15)) (defBody (topS 15)) (defScope (topS 15)) .none kV9 dc9 pm9 an9 (.ref cc9) ct9
      | 9 => PySem.W.fnOf "letter_after" "letter_after" (defArgs (topS 16)) (defBody (topS 16)) (defScope (topS 16)) .none kV10 dc10 pm10 an10 cd10 ct10
      | 10 => PySem.W.fnOf "_law_dice" "_law_dice" (defArgs (topS 18)) (defBody (topS 18)) (defScope (topS 18)) .none kV11 dc11 pm11 an11 cd11 ct11
      | 11 => PySem.W.fnOf "_law_roll" "_law_roll" (defArgs (topS 19)) (defBody (topS 19)) (defScope (topS 19)) .none kV12 dc12 pm12 an12 cd12 ct12
      | 12 => PySem.W.fnOf "_law_word" "_law_word" (defArgs (topS 21)) (defBody (topS 21)) (defScope (topS 21)) .none kV13 dc13 pm13 an13 cd13 ct13
      | _ => PySem.W.fnOf "_law_word" "_law_word" (defArgs (topS 21)) (defBody (topS 21)) (defScope (topS 21)) .none kV13 dc13 pm13 an13 cd13 ct13) := {
    fs := rfl
    off := rfl
    df := fun f d h => by
      match f, h with
      | 0, h => cases h; exact ⟨⟨_, F1⟩, PySem.W.mg_of X G a1, b1, sc_is_whole, by decide +kernel, by decide +kernel, by decide +kernel, ok_is_whole, fun h => (by cases h)⟩
      | 1, h => cases h; exact ⟨⟨_, F2⟩, PySem.W.mg_of X G a2, b2, sc_check_whole, by decide +kernel, by decide +kernel, by decide +kernel, ok_check_whole, fun h => (by cases h)⟩
      | 2, h => cases h; exact ⟨⟨_, F3⟩, PySem.W.mg_of X G a3, b3, sc_counts, by decide +kernel, by decide +kernel, by decide +kernel, ok_counts, fun h => (by cases h)⟩
      | 3, h => cases h; exact ⟨⟨_, F4⟩, PySem.W.mg_of X G a4, b4, sc_table_of, by decide +kernel, by decide +kernel, by decide +kernel, ok_table_of, fun h => (by cases h)⟩
      | 4, h => cases h; exact ⟨⟨_, F5⟩, PySem.W.mg_of X G a5, b5, sc_times, by decide +kernel, by decide +kernel, by decide +kernel, ok_times, fun _ => ⟨cc5, P5, rfl, TabB_of (TB (cc5, P5) (by simp)), by simp⟩⟩
      | 5, h => cases h; exact ⟨⟨_, F6⟩, PySem.W.mg_of X G a6, b6, sc_table_power, by decide +kernel, by decide +kernel, by decide +kernel, ok_table_power, fun h => (by cases h)⟩
      | 6, h => cases h; exact ⟨⟨_, F7⟩, PySem.W.mg_of X G a7, b7, sc_counts_after, by decide +kernel, by decide +kernel, by decide +kernel, ok_counts_after, fun _ => ⟨cc7, P7, rfl, TabB_of (TB (cc7, P7) (by simp)), by simp⟩⟩
      | 7, h => cases h; exact ⟨⟨_, F8⟩, PySem.W.mg_of X G a8, b8, sc_length_after, by decide +kernel, by decide +kernel, by decide +kernel, ok_length_after, fun h => (by cases h)⟩
      | 8, h => cases h; exact ⟨⟨_, F9⟩, PySem.W.mg_of X G a9, b9, sc_lengths_table, by decide +kernel, by decide +kernel, by decide +kernel, ok_lengths_table, fun _ => ⟨cc9, P9, rfl, TabB_of (TB (cc9, P9) (by simp)), by simp⟩⟩
      | 9, h => cases h; exact ⟨⟨_, F10⟩, PySem.W.mg_of X G a10, b10, sc_letter_after, by decide +kernel, by decide +kernel, by decide +kernel, ok_letter_after, fun h => (by cases h)⟩
      | 10, h => cases h; exact ⟨⟨_, F11⟩, PySem.W.mg_of X G a11, b11, sc__law_dice, by decide +kernel, by decide +kernel, by decide +kernel, ok__law_dice, fun h => (by cases h)⟩
      | 11, h => cases h; exact ⟨⟨_, F12⟩, PySem.W.mg_of X G a12, b12, sc__law_roll, by decide +kernel, by decide +kernel, by decide +kernel, ok__law_roll, fun h => (by cases h)⟩
      | 12, h => cases h; exact ⟨⟨_, F13⟩, PySem.W.mg_of X G a13, b13, sc__law_word, by decide +kernel, by decide +kernel, by decide +kernel, ok__law_word, fun h => (by cases h)⟩
      | n + 13, h => simp [dfs] at h
    cs := fun g nm d h1 h2 => by
      match g, h1, h2 with
      | 0, h1, h2 => cases h1; cases h2; exact cst_ok v_TURNS (PySem.W.mg_of X G g_TURNS) (by decide +kernel)
      | n + 1, h1, h2 => simp [gi] at h1
    blt := fun x hx => by
      unfold bltNames at hx
      simp only [List.mem_cons, List.not_mem_nil, or_false] at hx
      rcases hx with rfl | rfl | rfl | rfl | rfl | rfl | rfl | rfl | rfl | rfl | rfl | rfl | rfl | rfl | rfl | rfl | rfl | rfl | rfl | rfl
      · exact PySem.W.mg_none_of X G z_len
      · exact PySem.W.mg_none_of X G z_abs
      · exact PySem.W.mg_none_of X G z_int
      · exact PySem.W.mg_none_of X G z_min
      · exact PySem.W.mg_none_of X G z_max
      · exact PySem.W.mg_none_of X G z_tuple
      · exact PySem.W.mg_none_of X G z_list
      · exact PySem.W.mg_none_of X G z_sorted
      · exact PySem.W.mg_none_of X G z_sum
      · exact PySem.W.mg_none_of X G z_range
      · exact PySem.W.mg_none_of X G z_reversed
      · exact PySem.W.mg_none_of X G z_all
      · exact PySem.W.mg_none_of X G z_any
      · exact PySem.W.mg_none_of X G z_enumerate
      · exact PySem.W.mg_none_of X G z_zip
      · exact PySem.W.mg_none_of X G z_isinstance
      · exact PySem.W.mg_none_of X G z_bool
      · exact PySem.W.mg_none_of X G z_dict
      · exact PySem.W.mg_none_of X G z_set
      · exact PySem.W.mg_none_of X G z_str
  }
  have FR : FnOk PySem.Challenge.rw_gardenworks_k07_far_turns_without_growin.prog w K mg base CX0 20 f14 (PySem.W.fnOf "_law_rounds" "_law_rounds" (defArgs (topS 20)) (defBody (topS 20)) (defScope (topS 20)) .none kV14 dc14 pm14 an14 cd14 ct14) ["script", "most"] (spR K [P5, P7, P9]) := rounds_fn (n := 9) (f := 10) T F14 sc__law_rounds ok__law_rounds dice_ok
  exact law_fn (f := 0) (nn := 17) (nc := 10) (n := lawN) (b := ir_law) (e := ir_lawE) T F15 sc_law (by decide +kernel) rfl (lg := false) (fun h => (by cases h)) ok_law (PySem.W.mg_of X G a14) F14.kp b14 FR law_runs
end GwK
open PySem PySem.W PyProof.Rows
set_option maxHeartbeats 0 in
theorem PySem.Challenge.cw_gardenworks_k07_far_turns_without_growin_holds : PySem.Challenge.rw_gardenworks_k07_far_turns_without_growin.Holds := by
  w_on; o_law; k_head; (case hw => w_witness2)
  k_fill
  refine Gw.walk_ofG (l := PySem.Challenge.rw_gardenworks_k07_far_turns_without_growin) (n := 63) (k := 22) (x := "script") (CX := fun _ => L2.CX0) rfl (by decide) rfl ⟨rfl, by decide, by decide⟩ (fun w h Y => PySem.W.kIn_of Y) ?F (fun _ _ _ _ _ h => h)
  case F =>
    intro w mg fa h KX G hmg tin
    refine' GwK.facts KX G hmg tin ?a1 ?l1 ?c1 ?k1 ?a2 ?l2 ?c2 ?k2 ?a3 ?l3 ?c3 ?k3 ?a4 ?l4 ?c4 ?k4 ?a5 ?l5 ?c5 ?k5 ?lc5 ?vv5 ?nP5 ?rq5 ?a6 ?l6 ?c6 ?k6 ?a7 ?l7 ?c7 ?k7 ?lc7 ?vv7 ?nP7 ?rq7 ?a8 ?l8 ?c8 ?k8 ?a9 ?l9 ?c9 ?k9 ?lc9 ?vv9 ?nP9 ?rq9 ?a10 ?l10 ?c10 ?k10 ?a11 ?l11 ?c11 ?k11 ?a12 ?l12 ?c12 ?k12 ?a13 ?l13 ?c13 ?k13 ?a14 ?l14 ?c14 ?k14 ?a15 ?l15 ?c15 ?k15 ?z_len ?z_abs ?z_int ?z_min ?z_max ?z_tuple ?z_list ?z_sorted ?z_sum ?z_range ?z_reversed ?z_all ?z_any ?z_enumerate ?z_zip ?z_isinstance ?z_bool ?z_dict ?z_set ?z_str ?g_TURNS ?v_TURNS
    (case a1 => first | k_is | rfl)
    (case l1 => first | k_is | rfl)
    (case c1 => first | k_is | rfl)
    (case k1 => first | k_is | rfl)
    (case a2 => first | k_is | rfl)
    (case l2 => first | k_is | rfl)
    (case c2 => first | k_is | rfl)
    (case k2 => first | k_is | rfl)
    (case a3 => first | k_is | rfl)
    (case l3 => first | k_is | rfl)
    (case c3 => first | k_is | rfl)
    (case k3 => first | k_is | rfl)
    (case a4 => first | k_is | rfl)
    (case l4 => first | k_is | rfl)
    (case c4 => first | k_is | rfl)
    (case k4 => first | k_is | rfl)
    (case a5 => first | k_is | rfl)
    (case l5 => first | k_is | rfl)
    (case c5 => first | k_is | rfl)
    (case k5 => first | k_is | rfl)
    (case lc5 => first | k_is | rfl)
    (case vv5 => first | k_is | rfl)
    (case nP5 => first | k_is | rfl)
    (case rq5 => first | k_is | rfl | decide +kernel)
    (case a6 => first | k_is | rfl)
    (case l6 => first | k_is | rfl)
    (case c6 => first | k_is | rfl)
    (case k6 => first | k_is | rfl)
    (case a7 => first | k_is | rfl)
    (case l7 => first | k_is | rfl)
    (case c7 => first | k_is | rfl)
    (case k7 => first | k_is | rfl)
    (case lc7 => first | k_is | rfl)
    (case vv7 => first | k_is | rfl)
    (case nP7 => first | k_is | rfl)
    (case rq7 => first | k_is | rfl | decide +kernel)
    (case a8 => first | k_is | rfl)
    (case l8 => first | k_is | rfl)
    (case c8 => first | k_is | rfl)
    (case k8 => first | k_is | rfl)
    (case a9 => first | k_is | rfl)
    (case l9 => first | k_is | rfl)
    (case c9 => first | k_is | rfl)
    (case k9 => first | k_is | rfl)
    (case lc9 => first | k_is | rfl)
    (case vv9 => first | k_is | rfl)
    (case nP9 => first | k_is | rfl)
    (case rq9 => first | k_is | rfl | decide +kernel)
    (case a10 => first | k_is | rfl)
    (case l10 => first | k_is | rfl)
    (case c10 => first | k_is | rfl)
    (case k10 => first | k_is | rfl)
    (case a11 => first | k_is | rfl)
    (case l11 => first | k_is | rfl)
    (case c11 => first | k_is | rfl)
    (case k11 => first | k_is | rfl)
    (case a12 => first | k_is | rfl)
    (case l12 => first | k_is | rfl)
    (case c12 => first | k_is | rfl)
    (case k12 => first | k_is | rfl)
    (case a13 => first | k_is | rfl)
    (case l13 => first | k_is | rfl)
    (case c13 => first | k_is | rfl)
    (case k13 => first | k_is | rfl)
    (case a14 => first | k_is | rfl)
    (case l14 => first | k_is | rfl)
    (case c14 => first | k_is | rfl)
    (case k14 => first | k_is | rfl)
    (case a15 => first | k_is | rfl)
    (case l15 => first | k_is | rfl)
    (case c15 => first | k_is | rfl)
    (case k15 => first | k_is | rfl)
    (case z_len => first | k_is | rfl)
    (case z_abs => first | k_is | rfl)
    (case z_int => first | k_is | rfl)
    (case z_min => first | k_is | rfl)
    (case z_max => first | k_is | rfl)
    (case z_tuple => first | k_is | rfl)
    (case z_list => first | k_is | rfl)
    (case z_sorted => first | k_is | rfl)
    (case z_sum => first | k_is | rfl)
    (case z_range => first | k_is | rfl)
    (case z_reversed => first | k_is | rfl)
    (case z_all => first | k_is | rfl)
    (case z_any => first | k_is | rfl)
    (case z_enumerate => first | k_is | rfl)
    (case z_zip => first | k_is | rfl)
    (case z_isinstance => first | k_is | rfl)
    (case z_bool => first | k_is | rfl)
    (case z_dict => first | k_is | rfl)
    (case z_set => first | k_is | rfl)
    (case z_str => first | k_is | rfl)
    (case g_TURNS => first | k_is | rfl)
    (case v_TURNS => first | k_is | rfl)

