import PyProof.Rows.All
import Wide.All
import OpenK.AllK
import Wide.FinOn
import HandS.ForMost
import HandS.Flow
import HandS.Deep
import HandS.TupAny
import KE.DataCmp
import KE.SortData
import HandS.AnyAll
import HandS.Walk
import HandS.SetBool
import HandS.SetKeys
import HandS.GenOver
import HandS.Style
import HandS.Steps
import HandS.EndOwn
import PySem.Challenge.RW_gardenworks_k03_words_told_by_falling_pa
set_option Elab.async false
set_option linter.all false
set_option maxRecDepth 100000
/-! The value layer, part 1: data, the small syntax, its meaning. Plain Lean. -/
namespace Gw
open PySem

/-- keys of dicts -/
inductive Ky where
  | i (n : Int) | s (l : List Nat) | t (ks : List (Sum Int (List Nat)))
  deriving DecidableEq

/-- data without places -/
inductive D where
  | non | bl (b : Bool) | int (i : Int) | str (l : List Nat) | lst (ds : List D) | tup (ds : List D) | dct (kvs : List (Ky × D)) | scr (ns : List Int) | adr (a : Nat)

/-- a slot: nothing known, a value, a container that this frame alone holds, one handed in by reference -/
inductive Sl where
  | no | val (d : D) | own (d : D) | ref (d : D)

inductive Res (α : Type) where
  | ok (a : α) | exc (c : Nat) (p : Option D) | stuck
def Res.bind {α β : Type} (x : Res α) (f : α → Res β) : Res β := match x with
  | .ok a => f a
  | .exc c p => .exc c p
  | .stuck => .stuck
@[simp] theorem Res.ok_bind {α β : Type} (a : α) (f : α → Res β) : Res.bind (.ok a) f = f a := rfl
@[simp] theorem Res.stuck_bind {α β : Type} (f : α → Res β) : Res.bind (.stuck : Res α) f = .stuck := rfl
@[simp] theorem Res.exc_bind {α β : Type} (c : Nat) (p : Option D) (f : α → Res β) : Res.bind (.exc c p : Res α) f = .exc c p := rfl
def Res.of {α : Type} : Option α → Res α
  | some a => .ok a
  | none => .stuck
@[simp] theorem Res.of_some {α : Type} (a : α) : Res.of (some a) = .ok a := rfl
@[simp] theorem Res.of_none {α : Type} : Res.of (none : Option α) = .stuck := rfl

abbrev Env := List Sl
def Sl.d? : Sl → Option D
  | .no => none
  | .val d => some d
  | .own d => some d
  | .ref d => some d
/-- what an expression gives -/
inductive Rv where
  | val (d : D) | own (d : D)
def Rv.d : Rv → D
  | .val d => d
  | .own d => d
def Rv.sl : Rv → Sl
  | .val d => .val d
  | .own d => .own d

/-! ### operators -/
inductive Bop where | add | sub | mul | fdiv | mod | pow
  deriving DecidableEq
inductive Cop where | eq | ne | lt | le | gt | ge | isin | notin | isnone | notnone
  deriving DecidableEq

mutual
def D.eqb : D → D → Bool
  | .non, .non => true
  | .bl a, .bl b => a == b
  | .int a, .int b => a == b
  | .bl a, .int b => (if a then 1 else 0) == b
  | .int a, .bl b => a == (if b then 1 else 0)
  | .str a, .str b => a == b
  | .lst a, .lst b => D.eqbs a b
  | .tup a, .tup b => D.eqbs a b
  | _, _ => false
def D.eqbs : List D → List D → Bool
  | [], [] => true
  | a :: as, b :: bs => D.eqb a b && D.eqbs as bs
  | _, _ => false
end
mutual
/-- no dict within; its depth -/
def D.plain : D → Bool
  | .str l => l.all fun c => decide (c < 1114112)
  | .lst a => D.plains a
  | .tup a => D.plains a
  | .dct _ => false
  | .scr _ => false
  | .adr _ => false
  | _ => true
def D.plains : List D → Bool
  | [] => true
  | a :: as => D.plain a && D.plains as
end
mutual
def D.depth : D → Nat
  | .lst a => D.depths a + 1
  | .tup a => D.depths a + 1
  | _ => 0
def D.depths : List D → Nat
  | [] => 0
  | a :: as => max (D.depth a) (D.depths as)
end
mutual
/-- no dict within -/
def D.nodct : D → Bool
  | .lst a => D.nodcts a
  | .tup a => D.nodcts a
  | .dct _ => false
  | .scr _ => false
  | .adr _ => false
  | _ => true
def D.nodcts : List D → Bool
  | [] => true
  | a :: as => D.nodct a && D.nodcts as
end
mutual
/-- may be compared place by place -/
def D.alike : D → D → Bool
  | .non, .non => true
  | .bl _, .bl _ => true
  | .int _, .int _ => true
  | .str _, .str _ => true
  | .lst a, .lst b => D.alikes a b
  | .tup a, .tup b => D.alikes a b
  | _, _ => false
def D.alikes : List D → List D → Bool
  | a :: as, b :: bs => D.alike a b && D.alikes as bs
  | _, _ => true
end
def ltL : List Nat → List Nat → Bool
  | _, [] => false
  | [], _ :: _ => true
  | a :: as, b :: bs => if a < b then true else if a = b then ltL as bs else false
mutual
def D.ltb : D → D → Bool
  | .bl a, .bl b => !a && b
  | .int a, .int b => decide (a < b)
  | .str a, .str b => ltL a b
  | .lst a, .lst b => D.ltbs a b
  | .tup a, .tup b => D.ltbs a b
  | _, _ => false
def D.ltbs : List D → List D → Bool
  | _, [] => false
  | [], _ :: _ => true
  | a :: as, b :: bs => if D.eqb a b then D.ltbs as bs else D.ltb a b
end
def insD (x : D) : List D → List D
  | [] => [x]
  | y :: r => if D.ltb y x then y :: insD x r else x :: y :: r
/-- sorting, stable -/
def sortD (l : List D) : List D := l.foldr insD []
def D.isTup : D → Bool
  | .tup (_ :: _) => true
  | _ => false
def D.noTup : D → Bool
  | .non => false
  | .tup _ => false
  | _ => true
def sortable (ds : List D) : Bool := D.nodcts ds && decide (D.depths ds ≤ 60) && (ds.all fun a => ds.all fun b => D.alike a b) && (ds.all D.isTup || ds.all D.noTup)
def dSorted (ds : List D) : Option (List D) := if sortable ds then some (sortD ds) else none
def ordOk (a b : D) : Bool := a.nodct && b.nodct && D.alike a b && decide (a.depth ≤ 60) && !(match a with
  | .non => true
  | _ => false)
def D.shaped (d : D) : Bool := d.plain && decide (d.depth ≤ 64)

/-- the text a begins at some place of b -/
def isIn (a : List Nat) : List Nat → Bool
  | [] => a.isEmpty
  | c :: r => a.isPrefixOf (c :: r) || isIn a r

def lineOk (n : Nat) : Bool := decide (n ≤ 16777216)
def small64 (i : Int) : Bool := decide (-18446744073709551616 < i) && decide (i < 18446744073709551616)

def dBin : Bop → D → D → Option Rv
  | .add, .int a, .int b => some (.val (.int (a + b)))
  | .add, .str a, .str b => if lineOk (a.length + b.length) then some (.val (.str (a ++ b))) else none
  | .add, .lst a, .lst b => if lineOk (a.length + b.length) then some (.own (.lst (a ++ b))) else none
  | .add, .tup a, .tup b => if lineOk (a.length + b.length) then some (.val (.tup (a ++ b))) else none
  | .sub, .int a, .int b => some (.val (.int (a - b)))
  | .mul, .int a, .int b => if small64 a || small64 b then some (.val (.int (a * b))) else none
  | .mul, .str a, .int b => if lineOk (a.length * b.toNat) && decide (b < 1000000) && decide (-1000000 < b) then some (.val (.str (List.replicate b.toNat a).flatten)) else none
  | .mul, .lst a, .int b => if lineOk (a.length * b.toNat) && decide (b < 1000000) && decide (-1000000 < b) then some (.own (.lst (List.replicate b.toNat a).flatten)) else none
  | .fdiv, .int a, .int b => if decide (0 < b) && decide (b < 1073741824) then some (.val (.int (a / b))) else none
  | .mod, .int a, .int b => if decide (0 < b) then some (.val (.int (a % b))) else none
  | .pow, .int a, .int b => if decide (0 ≤ b) && decide (b ≤ 1000000) && small64 a then some (.val (.int (a ^ b.toNat))) else none
  | _, _, _ => none

def D.isNon : D → Bool
  | .non => true
  | _ => false
def D.isKey : D → Bool
  | .int _ => true
  | .str _ => true
  | _ => false
def D.flat : D → Bool
  | .non => true
  | .bl _ => true
  | .int _ => true
  | .str _ => true
  | _ => false
def D.scal : D → D → Bool
  | .bl _, .int _ => false
  | .int _, .bl _ => false
  | a, b => a.flat && b.flat
def dEqO (a b : D) : Option Bool := if D.scal a b then some (D.eqb a b) else if a.shaped && b.shaped then some (D.eqb a b) else none
def dIn (x : D) : D → Option Bool
  | .lst ds => if x.flat && ds.all D.flat then some (ds.any fun z => D.eqb z x) else if x.shaped && (D.lst ds).shaped then some (ds.any fun z => D.eqb z x) else none
  | .tup ds => if x.flat && ds.all D.flat then some (ds.any fun z => D.eqb z x) else none
  | .str l => match x with
    | .str a => some (isIn a l)
    | _ => none
  | _ => none

def dCmp : Cop → D → D → Option Bool
  | .eq, a, b => dEqO a b
  | .ne, a, b => (dEqO a b).map (!·)
  | .lt, .int a, .int b => some (decide (a < b))
  | .le, .int a, .int b => some (decide (a ≤ b))
  | .gt, .int a, .int b => some (decide (b < a))
  | .ge, .int a, .int b => some (decide (b ≤ a))
  | .lt, .str a, .str b => some (ltL a b)
  | .le, .str a, .str b => some (!ltL b a)
  | .gt, .str a, .str b => some (ltL b a)
  | .ge, .str a, .str b => some (!ltL a b)
  | .lt, a, b => if ordOk a b then some (D.ltb a b) else none
  | .le, a, b => if ordOk a b then some (!D.ltb b a) else none
  | .gt, a, b => if ordOk a b then some (D.ltb b a) else none
  | .ge, a, b => if ordOk a b then some (!D.ltb a b) else none
  | .isin, a, b => dIn a b
  | .notin, a, b => (dIn a b).map (!·)
  | .isnone, a, .non => some a.isNon
  | .notnone, a, .non => some (!a.isNon)
  | _, _, _ => none

def dTruth : D → Option Bool
  | .non => some false
  | .bl b => some b
  | .int i => some (decide (i ≠ 0))
  | .str l => if lineOk l.length then some (!l.isEmpty) else none
  | .lst l => some (!l.isEmpty)
  | .tup l => some (!l.isEmpty)
  | .dct _ => none
  | .scr _ => none
  | .adr _ => none

/-! ### places -/
def sIx (n d : Nat) : Option Int → Nat
  | none => d
  | some v => if v < 0 then (v + n).toNat else min v.toNat n
def cut {α : Type} (xs : List α) (lo hi : Option Int) : List α := (xs.drop (sIx xs.length 0 lo)).take (sIx xs.length xs.length hi - sIx xs.length 0 lo)
def ixN (n : Nat) (i : Int) : Option Nat := if 0 ≤ i then (if i < n then some i.toNat else none) else if -(n : Int) ≤ i then some (i + n).toNat else none
def atI {α : Type} (xs : List α) (i : Int) : Option α := (ixN xs.length i).bind fun j => xs[j]?

def dIdx : D → D → Option D
  | .lst ds, .int i => atI ds i
  | .tup ds, .int i => atI ds i
  | .str l, .int i => if lineOk l.length then (atI l i).map fun c => .str [c] else none
  | _, _ => none
def dPart : D → Option (Option Int)
  | .int i => some (some i)
  | _ => none
def dCut : D → Option Int → Option Int → Option Rv
  | .lst ds, lo, hi => some (.own (.lst (cut ds lo hi)))
  | .str l, lo, hi => if lineOk l.length then some (.val (.str (cut l lo hi))) else none
  | .tup ds, lo, hi => some (.val (.tup (cut ds lo hi)))
  | .scr ns, lo, hi => some (.own (.lst (cut (ns.map D.int) lo hi)))
  | _, _, _ => none

/-! ### built-in functions on values -/
inductive Bi where | len | abs | int | min2 | max2 | tuple | list | sorted | sum | join
  deriving DecidableEq

def dStrs : List D → Option (List (List Nat))
  | [] => some []
  | .str l :: r => (dStrs r).map (l :: ·)
  | _ :: _ => none
def dInts : List D → Option (List Int)
  | [] => some []
  | .int l :: r => (dInts r).map (l :: ·)
  | _ :: _ => none
def uniqD : List D → List D
  | [] => []
  | x :: r => match uniqD r with
    | [] => [x]
    | y :: t => if D.eqb x y then y :: t else x :: y :: t
def sumLen : List (List Nat) → Nat
  | [] => 0
  | l :: r => l.length + sumLen r

def dBi : Bi → List D → Option Rv
  | .len, [.str l] => if lineOk l.length then some (.val (.int l.length)) else none
  | .len, [.lst l] => some (.val (.int l.length))
  | .len, [.tup l] => some (.val (.int l.length))
  | .abs, [.int i] => some (.val (.int (if i < 0 then -i else i)))
  | .int, [.int i] => some (.val (.int i))
  | .int, [.bl b] => some (.val (.int (if b then 1 else 0)))
  | .min2, [.int i, .int j] => some (.val (.int (if j < i then j else i)))
  | .max2, [.int i, .int j] => some (.val (.int (if j > i then j else i)))
  | .tuple, [.lst l] => some (.val (.tup l))
  | .tuple, [.tup l] => some (.val (.tup l))
  | .list, [.lst l] => some (.own (.lst l))
  | .list, [.tup l] => some (.own (.lst l))
  | .sorted, [.lst l] => (dSorted l).map fun r => .own (.lst r)
  | .sum, [.lst l] => (dInts l).map fun ns => .val (.int ns.sum)
  | _, _ => none

/-! ### the small syntax -/
inductive T where
  | nm (i : Nat) | tu (ts : List T)
inductive Gk where | all | any | sum
  deriving DecidableEq
mutual
inductive E where
  | nop
  | var (i : Nat) | cst (d : D) | glb (g : Nat)
  | bin (op : Bop) (a b : E) | neg (a : E)
  | cmp (op : Cop) (a b : E) | chn (op op' : Cop) (a b c : E)
  | and (a b : E) | or (a b : E) | not (a : E) | ite (c a b : E)
  | tup (es : Es) | lst (es : Es)
  | idx (a b : E) | idv (i : Nat) (b : E) | sli (a lo hi : E) | lenv (i : Nat)
  | inv (op : Cop) (a : E) (i : Nat) | cmv (op : Cop) (i : Nat) (a : E)
  | bi (b : Bi) (es : Es) | joi (a b : E)
  | cal (f : Nat) (es : Es) | car (f i : Nat) (es : Es)
  | lc (elt : E) (t : T) (it : I) (c : E) | lc2 (elt : E) (t : T) (it : I) (c : E) (t' : T) (it' : I) (c' : E)
  | gen (k : Gk) (elt : E) (t : T) (it : I) (c : E)
  | srs (elt : E) (t : T) (it : I) (c : E)
inductive I where
  | frz (e : E) | mov (i : Nat) | rng (es : Es) | enm (e : E) | zip (a b : E) | rev (e : E)
inductive Es where
  | nil | cons (e : E) (es : Es)
end
mutual
inductive S where
  | asg (i : Nat) (e : E) | par (is : List Nat) (es : Es) | unp (t : T) (e : E) | aug (i : Nat) (op : Bop) (e : E)
  | set (i : Nat) (k e : E) | exp (e : E) | app (i : Nat) (e : E)
  | ret (e : E) | ife (c : E) (a b : Ss) | fors (t : T) (it : I) (b : Ss) | whl (n : Nat) (c : E) (b : Ss) | brk | cont | pass | bad
inductive Ss where
  | nil | cons (s : S) (ss : Ss)
end

/-! ### its meaning -/
/-- a def's meaning: the parameters' slots; what it hands back, and the parameters' slots behind it -/
abbrev Fn := List Sl → Res (Rv × List Sl)
structure Glo where
  fn : Nat → Fn
  cst : Nat → Option D

def Env.at (ρ : Env) (i : Nat) : Sl := (ρ[i]?).getD .no
/-- a store (the first parameter may be another's) -/
def Env.put (ρ : Env) : Nat → Sl → Option Env
  | 0, s => match ρ.at 0 with
    | .ref _ => none
    | _ => some (ρ.set 0 s)
  | i + 1, s => some (ρ.set (i + 1) s)
/-! stores of targets -/
mutual
def setT : T → D → Env → Option Env
  | .nm i, d, ρ => ρ.put i (.val d)
  | .tu ts, .tup ds, ρ => setTs ts ds ρ
  | .tu _, _, _ => none
def setTs : List T → List D → Env → Option Env
  | [], [], ρ => some ρ
  | t :: ts, d :: ds, ρ => match setT t d ρ with
    | some ρ' => setTs ts ds ρ'
    | none => none
  | _, _, _ => none
end
def T.slots : T → List Nat
  | .nm i => [i]
  | .tu ts => slotsL ts
where slotsL : List T → List Nat
  | [] => []
  | t :: ts => T.slots t ++ slotsL ts
/-- slots forgotten -/
def wipe (ρ : Env) : List Nat → Env
  | [] => ρ
  | v :: vs => (wipe ρ vs).set v .no
/-- may these slots be forgotten (they hold no container) -/
def wipable (ρ : Env) (vs : List Nat) : Bool := vs.all fun i => decide (i < ρ.length) && match ρ.at i with
  | .no => true
  | .val _ => true
  | _ => false

def signs (l : List Nat) : List D := l.map fun c => .str [c]
/-- lo, lo + c, .., n of them -/
def ranged (lo c : Int) (n : Nat) : List D := (List.range n).map fun (k : Nat) => .int (lo + (k : Int) * c)
def inR (i : Int) : Bool := decide (-4611686018427387904 ≤ i) && decide (i < 4611686018427387904)
def dRange : List D → Option (List D)
  | [.int j] => if inR j then some (ranged 0 1 j.toNat) else none
  | [.int i, .int j] => if inR i && inR j then some (ranged i 1 (j - i).toNat) else none
  | [.int i, .int j, .int c] => if inR i && inR j && decide (c = -1) then some (ranged i (-1) (i - j).toNat) else none
  | _ => none
def dItems : D → Option (List D)
  | .lst ds => some ds
  | .tup ds => some ds
  | .str l => some (signs l)
  | _ => none
def enumd (ds : List D) : List D := (List.range ds.length).zip ds |>.map fun p => .tup [.int p.1, p.2]

inductive Fl where
  | nx (ρ : Env) | rt (d : Rv) (ρ : Env) | bk (ρ : Env) | ct (ρ : Env)

/-- a turn of a comprehension: target, test, element -/
def turnC (set : D → Env → Option Env) (own : List Nat) (c : Env → Res (Bool × Env)) (f : Env → Res (List D × Env)) (x : D) (ρ : Env) : Res (List D × Env) :=
  (Res.of (set x ρ)).bind fun ρ1 => (c ρ1).bind fun p => if p.1 then (f p.2).bind fun q => .ok (q.1, wipe q.2 own) else .ok ([], wipe p.2 own)
def loopC (turn : D → Env → Res (List D × Env)) : List D → List D → Env → Res (List D × Env)
  | [], acc, ρ => .ok (acc, ρ)
  | x :: r, acc, ρ => (turn x ρ).bind fun p => if lineOk (acc.length + p.1.length) then loopC turn r (acc ++ p.1) p.2 else .stuck
/-- all, any: until one decides -/
def loopB (stop : Bool) (turn : D → Env → Res (List D × Env)) : List D → Env → Res (Bool × Env)
  | [], ρ => .ok (!stop, ρ)
  | x :: r, ρ => (turn x ρ).bind fun p => match p.1 with
    | [] => loopB stop turn r p.2
    | [.bl b] => if b == stop then .ok (stop, p.2) else loopB stop turn r p.2
    | _ => .stuck
def loopF (body : D → Env → Res Fl) : List D → Env → Res Fl
  | [], ρ => .ok (.nx ρ)
  | x :: r, ρ => (body x ρ).bind fun f => match f with
    | .nx ρ' => loopF body r ρ'
    | .ct ρ' => loopF body r ρ'
    | .bk ρ' => .ok (.nx ρ')
    | .rt d ρ' => .ok (.rt d ρ')
def loopW (c : Env → Res (Bool × Env)) (body : Env → Res Fl) : Nat → Env → Res Fl
  | 0, _ => .stuck
  | n + 1, ρ => (c ρ).bind fun p => if p.1 then (body p.2).bind fun f => match f with
      | .nx ρ' => loopW c body n ρ'
      | .ct ρ' => loopW c body n ρ'
      | .bk ρ' => .ok (.nx ρ')
      | .rt d ρ' => .ok (.rt d ρ')
    else .ok (.nx p.2)

def dNeg : D → Option Rv
  | .int i => some (.val (.int (-i)))
  | _ => none
def E.isNop : E → Bool
  | .nop => true
  | _ => false
/-- behind a loop over a moved container -/
def back (mv : Option (Nat × D)) (ρ : Env) : Res Env := match mv with
  | none => .ok ρ
  | some (i, c) => match ρ.at i with
    | .no => .ok (ρ.set i (.own c))
    | _ => .stuck
def truR (r : Rv) (ρ : Env) : Res (Bool × Env) := (Res.of (dTruth r.d)).bind fun b => .ok (b, ρ)
def joinD (a : D) (b : D) : Option D := match a, b with
  | .str [], .lst ds => match dStrs ds with
    | some ss => if lineOk (sumLen ss) then some (.str ss.flatten) else none
    | none => none
  | .str [], .tup ds => match dStrs ds with
    | some ss => if lineOk (sumLen ss) then some (.str ss.flatten) else none
    | none => none
  | _, _ => none

mutual
def runE (G : Glo) : E → Env → Res (Rv × Env)
  | .nop, _ => .stuck
  | .var i, ρ => match ρ.at i with
    | .val d => .ok (.val d, ρ)
    | .own d => .ok (.val d, ρ.set i (.val d))
    | _ => .stuck
  | .cst d, ρ => .ok (.val d, ρ)
  | .glb g, ρ => (Res.of (G.cst g)).bind fun d => .ok (.val d, ρ)
  | .bin op a b, ρ => (runE G a ρ).bind fun p => (runE G b p.2).bind fun q => (Res.of (dBin op p.1.d q.1.d)).bind fun r => .ok (r, q.2)
  | .neg a, ρ => (runE G a ρ).bind fun p => (Res.of (dNeg p.1.d)).bind fun r => .ok (r, p.2)
  | .cmp op a b, ρ => (runE G a ρ).bind fun p => (runE G b p.2).bind fun q => (Res.of (dCmp op p.1.d q.1.d)).bind fun r => .ok (.val (.bl r), q.2)
  | .chn op op' a b c, ρ => (runE G a ρ).bind fun p => (runE G b p.2).bind fun q => (Res.of (dCmp op p.1.d q.1.d)).bind fun r =>
      if r then (runE G c q.2).bind fun z => (Res.of (dCmp op' q.1.d z.1.d)).bind fun r' => .ok (.val (.bl r'), z.2) else .ok (.val (.bl false), q.2)
  | .and a b, ρ => (runE G a ρ).bind fun p => (Res.of (dTruth p.1.d)).bind fun t => if t then runE G b p.2 else .ok p
  | .or a b, ρ => (runE G a ρ).bind fun p => (Res.of (dTruth p.1.d)).bind fun t => if t then .ok p else runE G b p.2
  | .not a, ρ => (runE G a ρ).bind fun p => (Res.of (dTruth p.1.d)).bind fun t => .ok (.val (.bl (!t)), p.2)
  | .ite c a b, ρ => (runE G c ρ).bind fun p => (Res.of (dTruth p.1.d)).bind fun t => if t then runE G a p.2 else runE G b p.2
  | .tup es, ρ => (runEs G es ρ).bind fun p => if lineOk p.1.length then .ok (.val (.tup (p.1.map Rv.d)), p.2) else .stuck
  | .lst es, ρ => (runEs G es ρ).bind fun p => if lineOk p.1.length then .ok (.own (.lst (p.1.map Rv.d)), p.2) else .stuck
  | .idx a b, ρ => (runE G a ρ).bind fun p => (runE G b p.2).bind fun q => (Res.of (dIdx p.1.d q.1.d)).bind fun r => .ok (.val r, q.2)
  | .idv i b, ρ => (Res.of (ρ.at i).d?).bind fun _ => (runE G b ρ).bind fun q => (Res.of (q.2.at i).d?).bind fun c => (Res.of (dIdx c q.1.d)).bind fun r => .ok (.val r, q.2)
  | .sli a lo hi, ρ => (runE G a ρ).bind fun p =>
      (if lo.isNop then .ok (none, p.2) else (runE G lo p.2).bind fun q => (Res.of (dPart q.1.d)).bind fun o => .ok (o, q.2)).bind fun l =>
      (if hi.isNop then .ok (none, l.2) else (runE G hi l.2).bind fun q => (Res.of (dPart q.1.d)).bind fun o => .ok (o, q.2)).bind fun h =>
      (Res.of (dCut p.1.d l.1 h.1)).bind fun r => .ok (r, h.2)
  | .lenv i, ρ => (Res.of (ρ.at i).d?).bind fun c => (Res.of (dBi .len [c])).bind fun r => .ok (r, ρ)
  | .inv op a i, ρ => (runE G a ρ).bind fun p => (Res.of (p.2.at i).d?).bind fun c => (Res.of (dCmp op p.1.d c)).bind fun r => .ok (.val (.bl r), p.2)
  | .cmv op i a, ρ => (Res.of (ρ.at i).d?).bind fun _ => (runE G a ρ).bind fun p => (Res.of (p.2.at i).d?).bind fun c => (Res.of (dCmp op c p.1.d)).bind fun r => .ok (.val (.bl r), p.2)
  | .bi b es, ρ => (runEs G es ρ).bind fun p => (Res.of (dBi b (p.1.map Rv.d))).bind fun r => .ok (r, p.2)
  | .joi a b, ρ => (runE G a ρ).bind fun p => (runE G b p.2).bind fun q => (Res.of (joinD p.1.d q.1.d)).bind fun r => .ok (.val r, q.2)
  | .cal f es, ρ => (runEs G es ρ).bind fun p => (G.fn f (p.1.map fun r => .val r.d)).bind fun q => .ok (q.1, p.2)
  | .car f i es, ρ => (Res.of (ρ.at i).d?).bind fun _ => (runEs G es ρ).bind fun p => match p.2.at i with
    | .own c => (G.fn f (.ref c :: p.1.map fun r => .val r.d)).bind fun q => match q.2 with
      | .ref c' :: _ => .ok (.val q.1.d, p.2.set i (.own c'))
      | _ => .stuck
    | .ref c => (G.fn f (.ref c :: p.1.map fun r => .val r.d)).bind fun q => match q.2 with
      | .ref c' :: _ => .ok (.val q.1.d, p.2.set i (.ref c'))
      | _ => .stuck
    | _ => .stuck
  | .lc elt t it c, ρ => (runI G it ρ).bind fun s => if wipable s.2.1 t.slots then
      (loopC (turnC (setT t) t.slots (fun ρ => if c.isNop then .ok (true, ρ) else (runE G c ρ).bind fun p => truR p.1 p.2) (fun ρ => (runE G elt ρ).bind fun q => .ok ([q.1.d], q.2))) s.1 [] (wipe s.2.1 t.slots)).bind fun z =>
        (back s.2.2 z.2).bind fun ρ' => .ok (.own (.lst z.1), ρ') else .stuck
  | .lc2 elt t it c t' it' c', ρ => (runI G it ρ).bind fun s => if wipable s.2.1 (t.slots ++ t'.slots) then
      (loopC (turnC (setT t) (t.slots ++ t'.slots) (fun ρ => if c.isNop then .ok (true, ρ) else (runE G c ρ).bind fun p => truR p.1 p.2)
        (fun ρ => (runI G it' ρ).bind fun s' => if wipable s'.2.1 t'.slots then (loopC (turnC (setT t') t'.slots (fun ρ => if c'.isNop then .ok (true, ρ) else (runE G c' ρ).bind fun p => truR p.1 p.2) (fun ρ => (runE G elt ρ).bind fun q => .ok ([q.1.d], q.2))) s'.1 [] (wipe s'.2.1 t'.slots)).bind fun z =>
          (back s'.2.2 z.2).bind fun ρ' => .ok (z.1, ρ') else .stuck)) s.1 [] (wipe s.2.1 (t.slots ++ t'.slots))).bind fun z =>
        (back s.2.2 z.2).bind fun ρ' => .ok (.own (.lst z.1), ρ') else .stuck
  | .gen k elt t it c, ρ => (runI G it ρ).bind fun s => if wipable s.2.1 t.slots then
      match k with
      | .sum => (loopC (turnC (setT t) t.slots (fun ρ => if c.isNop then .ok (true, ρ) else (runE G c ρ).bind fun p => truR p.1 p.2) (fun ρ => (runE G elt ρ).bind fun q => .ok ([q.1.d], q.2))) s.1 [] (wipe s.2.1 t.slots)).bind fun z =>
          (Res.of (dInts z.1)).bind fun ns => (back s.2.2 z.2).bind fun ρ' => .ok (.val (.int ns.sum), ρ')
      | .all => (loopB false (turnC (setT t) t.slots (fun ρ => if c.isNop then .ok (true, ρ) else (runE G c ρ).bind fun p => truR p.1 p.2) (fun ρ => (runE G elt ρ).bind fun q => .ok ([q.1.d], q.2))) s.1 (wipe s.2.1 t.slots)).bind fun z =>
          (back s.2.2 z.2).bind fun ρ' => .ok (.val (.bl z.1), ρ')
      | .any => (loopB true (turnC (setT t) t.slots (fun ρ => if c.isNop then .ok (true, ρ) else (runE G c ρ).bind fun p => truR p.1 p.2) (fun ρ => (runE G elt ρ).bind fun q => .ok ([q.1.d], q.2))) s.1 (wipe s.2.1 t.slots)).bind fun z =>
          (back s.2.2 z.2).bind fun ρ' => .ok (.val (.bl z.1), ρ')
      else .stuck
  | .srs elt t it c, ρ => (runI G it ρ).bind fun s => if wipable s.2.1 t.slots then
      (loopC (turnC (setT t) t.slots (fun ρ => if c.isNop then .ok (true, ρ) else (runE G c ρ).bind fun p => truR p.1 p.2) (fun ρ => (runE G elt ρ).bind fun q => .ok ([q.1.d], q.2))) s.1 [] (wipe s.2.1 t.slots)).bind fun z =>
        if z.1.all D.isKey && decide (z.1.length < 4000) then (Res.of (dSorted z.1)).bind fun ss => (back s.2.2 z.2).bind fun ρ' => .ok (.own (.lst (uniqD ss)), ρ') else .stuck else .stuck
def runI (G : Glo) : I → Env → Res (List D × Env × Option (Nat × D))
  | .frz e, ρ => (runE G e ρ).bind fun p => (Res.of (dItems p.1.d)).bind fun ds => .ok (ds, p.2, none)
  | .mov i, ρ => match ρ.at i with
    | .own (.lst ds) => .ok (ds, ρ.set i .no, some (i, .lst ds))
    | .val (.lst ds) => .ok (ds, ρ, none)
    | _ => .stuck
  | .rng es, ρ => (runEs G es ρ).bind fun p => (Res.of (dRange (p.1.map Rv.d))).bind fun ds => .ok (ds, p.2, none)
  | .enm e, ρ => (runE G e ρ).bind fun p => match p.1.d with
    | .lst ds => .ok (enumd ds, p.2, none)
    | .tup ds => .ok (enumd ds, p.2, none)
    | _ => .stuck
  | .zip a b, ρ => (runE G a ρ).bind fun p => (runE G b p.2).bind fun q => (Res.of (dItems p.1.d)).bind fun xs => (Res.of (dItems q.1.d)).bind fun ys =>
      .ok ((xs.zip ys).map fun z => .tup [z.1, z.2], q.2, none)
  | .rev e, ρ => (runE G e ρ).bind fun p => match p.1.d with
    | .lst ds => .ok (ds.reverse, p.2, none)
    | _ => .stuck
def runEs (G : Glo) : Es → Env → Res (List Rv × Env)
  | .nil, ρ => .ok ([], ρ)
  | .cons e es, ρ => (runE G e ρ).bind fun p => (runEs G es p.2).bind fun q => .ok (p.1 :: q.1, q.2)
end

/-- a, b, .. = values, one by one -/
def setAll : List Nat → List Rv → Env → Option Env
  | [], [], ρ => some ρ
  | i :: is, r :: rs, ρ => match ρ.put i r.sl with
    | none => none
    | some ρ' => setAll is rs ρ'
  | _, _, _ => none
def dSet : D → D → D → Option D
  | .lst ds, .int k, d => (ixN ds.length k).map fun j => .lst (ds.set j d)
  | _, _, _ => none
def dAug : Bop → D → D → Option D
  | .add, .int a, .int b => some (.int (a + b))
  | .add, .str a, .str b => if lineOk (a.length + b.length) then some (.str (a ++ b)) else none
  | .sub, .int a, .int b => some (.int (a - b))
  | _, _, _ => none
mutual
def runS (G : Glo) : S → Env → Res Fl
  | .asg i e, ρ => (runE G e ρ).bind fun p => (Res.of (p.2.put i p.1.sl)).bind fun ρ' => .ok (.nx ρ')
  | .par is es, ρ => (runEs G es ρ).bind fun p => (Res.of (setAll is p.1 p.2)).bind fun ρ' => .ok (.nx ρ')
  | .unp t e, ρ => (runE G e ρ).bind fun p => (Res.of (setT t p.1.d p.2)).bind fun ρ' => .ok (.nx ρ')
  | .aug i op e, ρ => match ρ.at i with
    | .val x => (runE G e ρ).bind fun p => (Res.of (dAug op x p.1.d)).bind fun d => match p.2.at i with
      | .val _ => .ok (.nx (p.2.set i (.val d)))
      | _ => .stuck
    | _ => .stuck
  | .set i k e, ρ => (runE G e ρ).bind fun p => (Res.of (p.2.at i).d?).bind fun _ => (runE G k p.2).bind fun q => match q.2.at i with
    | .own c => (Res.of (dSet c q.1.d p.1.d)).bind fun c' => .ok (.nx (q.2.set i (.own c')))
    | .ref c => (Res.of (dSet c q.1.d p.1.d)).bind fun c' => .ok (.nx (q.2.set i (.ref c')))
    | _ => .stuck
  | .exp e, ρ => (runE G e ρ).bind fun p => .ok (.nx p.2)
  | .app i e, ρ => match (ρ.at i).d? with
    | some (.lst _) => (runE G e ρ).bind fun p => match p.2.at i with
      | .own (.lst ds) => if lineOk (ds.length + 1) then .ok (.nx (p.2.set i (.own (.lst (ds ++ [p.1.d]))))) else .stuck
      | .ref (.lst ds) => if lineOk (ds.length + 1) then .ok (.nx (p.2.set i (.ref (.lst (ds ++ [p.1.d]))))) else .stuck
      | _ => .stuck
    | _ => .stuck
  | .ret e, ρ => (runE G e ρ).bind fun p => .ok (.rt p.1 p.2)
  | .ife c a b, ρ => (runE G c ρ).bind fun p => (Res.of (dTruth p.1.d)).bind fun t => if t then runSs G a p.2 else runSs G b p.2
  | .fors t it b, ρ => (runI G it ρ).bind fun s => match s.2.2 with
    | none => loopF (fun x ρ => (Res.of (setT t x ρ)).bind fun ρ1 => runSs G b ρ1) s.1 s.2.1
    | some _ => .stuck
  | .whl n c b, ρ => loopW (fun ρ => (runE G c ρ).bind fun p => truR p.1 p.2) (fun ρ => runSs G b ρ) n ρ
  | .brk, ρ => .ok (.bk ρ)
  | .cont, ρ => .ok (.ct ρ)
  | .pass, ρ => .ok (.nx ρ)
  | .bad, _ => .stuck
def runSs (G : Glo) : Ss → Env → Res Fl
  | .nil, ρ => .ok (.nx ρ)
  | .cons s ss, ρ => (runS G s ρ).bind fun f => match f with
    | .nx ρ' => runSs G ss ρ'
    | f => .ok f
end
/-- a def: n names in all, its body -/
def runF (G : Glo) (n : Nat) (np : Nat) (b : Ss) : Fn := fun ps => if ps.length = np then (runSs G b (ps ++ List.replicate (n - np) .no)).bind fun f => match f with
    | .rt d ρ => if np ≤ ρ.length then .ok (d, ρ.take np) else .stuck
    | .nx ρ => if np ≤ ρ.length then .ok (.val .non, ρ.take np) else .stuck
    | _ => .stuck
  else .stuck
/-- a def of the text -/
structure Df where
  nm : PySem.Str
  N : List PySem.Str
  np : Nat
  body : Ss
  g : Bool := false
/-- what the defs mean, with n levels of calls -/
def Phi (ds : List Df) (cst : Nat → Option D) : Nat → Nat → Fn
  | 0, _ => fun _ => .stuck
  | n + 1, f => match ds[f]? with
    | none => fun _ => .stuck
    | some d => runF ⟨Phi ds cst n, cst⟩ d.N.length d.np d.body
end Gw

set_option Elab.async false
set_option linter.all false
set_option maxRecDepth 100000
set_option maxHeartbeats 1000000
/-! The value layer, part 2: how data stands in HandS's heap. -/
namespace Gw
open PySem L2

def mkS (l : List Nat) : Str := ⟨l.toArray⟩
theorem mkS_len (l : List Nat) : (mkS l).length = l.length := by simp [mkS, Str.length]
theorem mkS_list (l : List Nat) : (mkS l).cps.toList = l := rfl

/-- a tuple of the written part -/
def Kt (K : PySem.W.Frag) (a : Addr) (xs : List V) : Prop :=
  ∃ (o : Obj) (its : Array Value) (n : Nat), K.lookup a = some o ∧ o.cls = .type "tuple" ∧ o.data = .seq its n ∧ its.size ≤ sizeLine ∧ Vals xs its.toList
/-- a list of the written part -/
def Kl (K : PySem.W.Frag) (a : Addr) (xs : List V) : Prop :=
  ∃ (o : Obj) (its : Array Value) (n : Nat), K.lookup a = some o ∧ o.cls = .type "list" ∧ o.dict = none ∧ o.data = .seq its n ∧ its.size ≤ sizeLine ∧ Vals xs its.toList
def kyK : Ky → Option Key
  | .i n => some (.inl n)
  | .s l => some (.inr (mkS l))
  | .t _ => none
mutual
inductive Rp (K : PySem.W.Frag) (M : Addr → Prop) (H : Hp) : V → D → Prop
  | non : Rp K M H .non .non
  | bl (b : Bool) : Rp K M H (.bl b) (.bl b)
  | int (i : Int) : Rp K M H (.int i) (.int i)
  | str (l : List Nat) : Rp K M H (.str (mkS l)) (.str l)
  | lst {a : Addr} {xs : List V} {ds : List D} : H a = some (.lst xs) → ¬ M a → RpA K M H xs ds → Rp K M H (.ref a) (.lst ds)
  | tup {a : Addr} {xs : List V} {ds : List D} : (H a = some (.tup xs) ∧ ¬ M a) ∨ Kt K a xs → RpA K M H xs ds → Rp K M H (.ref a) (.tup ds)
  | dct {a : Addr} {xs : List (Key × V)} {ds : List (Ky × D)} : H a = some (.dK xs) → ¬ M a → RpK K M H xs ds → Rp K M H (.ref a) (.dct ds)
  | scr {a : Addr} {ns : List Int} : (Rd H a (.lst (ns.map V.int)) ∧ ¬ M a) ∨ Kl K a (ns.map V.int) → Rp K M H (.ref a) (.scr ns)
  | adr (a : Addr) : Rp K M H (.ref a) (.adr a)
inductive RpA (K : PySem.W.Frag) (M : Addr → Prop) (H : Hp) : List V → List D → Prop
  | nil : RpA K M H [] []
  | cons {v : V} {vs : List V} {d : D} {ds : List D} : Rp K M H v d → RpA K M H vs ds → RpA K M H (v :: vs) (d :: ds)
inductive RpK (K : PySem.W.Frag) (M : Addr → Prop) (H : Hp) : List (Key × V) → List (Ky × D) → Prop
  | nil : RpK K M H [] []
  | cons {k : Key} {v : V} {vs : List (Key × V)} {y : Ky} {d : D} {ds : List (Ky × D)} : kyK y = some k → Rp K M H v d → RpK K M H vs ds → RpK K M H ((k, v) :: vs) ((y, d) :: ds)
end

section
variable {K : PySem.W.Frag} {M M' : Addr → Prop} {H H' : Hp}
/-- what stays: all tracked objects but those of M and the tables -/
def Stay (M : Addr → Prop) (H H' : Hp) : Prop := ∀ a o, H a = some o → ¬ M a → (∀ ps, o ≠ .tbl ps) → H' a = some o
def NewM (M M' : Addr → Prop) (H : Hp) : Prop := ∀ a, M' a → M a ∨ H a = none
mutual
theorem Rp.mono (hs : Stay M H H') (hm : NewM M M' H) : ∀ {v : V} {d : D}, Rp K M H v d → Rp K M' H' v d
  | _, _, .non => .non
  | _, _, .bl b => .bl b
  | _, _, .int i => .int i
  | _, _, .str l => .str l
  | _, _, .lst h n r => .lst (hs _ _ h n (fun _ e => by cases e)) (fun m => (hm _ m).elim n (fun z => by rw [z] at h; cases h)) (RpA.mono hs hm r)
  | _, _, .tup (.inl ⟨h, n⟩) r => .tup (.inl ⟨hs _ _ h n (fun _ e => by cases e), fun m => (hm _ m).elim n (fun z => by rw [z] at h; cases h)⟩) (RpA.mono hs hm r)
  | _, _, .tup (.inr k) r => .tup (.inr k) (RpA.mono hs hm r)
  | _, _, .dct h n r => .dct (hs _ _ h n (fun _ e => by cases e)) (fun m => (hm _ m).elim n (fun z => by rw [z] at h; cases h)) (RpK.mono hs hm r)
  | _, _, .scr (.inl ⟨.inl h, n⟩) => .scr (.inl ⟨.inl (hs _ _ h n (fun _ e => by cases e)), fun m => (hm _ m).elim n (fun z => by rw [z] at h; cases h)⟩)
  | _, _, .scr (.inl ⟨.inr ⟨o, h⟩, n⟩) => .scr (.inl ⟨.inr ⟨o, hs _ _ h n (fun _ e => by cases e)⟩, fun m => (hm _ m).elim n (fun z => by rw [z] at h; cases h)⟩)
  | _, _, .scr (.inr k) => .scr (.inr k)
  | _, _, .adr a => .adr a
theorem RpA.mono (hs : Stay M H H') (hm : NewM M M' H) : ∀ {vs : List V} {ds : List D}, RpA K M H vs ds → RpA K M' H' vs ds
  | _, _, .nil => .nil
  | _, _, .cons h t => .cons (Rp.mono hs hm h) (RpA.mono hs hm t)
theorem RpK.mono (hs : Stay M H H') (hm : NewM M M' H) : ∀ {vs : List (Key × V)} {ds : List (Ky × D)}, RpK K M H vs ds → RpK K M' H' vs ds
  | _, _, .nil => .nil
  | _, _, .cons k h t => .cons k (Rp.mono hs hm h) (RpK.mono hs hm t)
end
mutual
theorem Rp.off {a : Addr} (hk : ∀ b, b ≠ a → H' b = H b) (ha : ∀ o, H a = some o → match o with | .lst _ => False | .tup _ => False | .dK _ => False | .tbl _ => False | .frz _ _ => False | _ => True) : ∀ {v : V} {d : D}, Rp K M H v d → Rp K M H' v d
  | _, _, .non => .non
  | _, _, .bl b => .bl b
  | _, _, .int i => .int i
  | _, _, .str l => .str l
  | _, _, .lst (a := b) h n r => .lst ((hk b (fun e => by rw [e] at h; exact ha _ h)).trans h) n (RpA.off hk ha r)
  | _, _, .tup (a := b) (.inl ⟨h, n⟩) r => .tup (.inl ⟨(hk b (fun e => by rw [e] at h; exact ha _ h)).trans h, n⟩) (RpA.off hk ha r)
  | _, _, .tup (.inr k) r => .tup (.inr k) (RpA.off hk ha r)
  | _, _, .dct (a := b) h n r => .dct ((hk b (fun e => by rw [e] at h; exact ha _ h)).trans h) n (RpK.off hk ha r)
  | _, _, .scr (a := b) (.inl ⟨.inl h, n⟩) => .scr (.inl ⟨.inl ((hk b (fun e => by rw [e] at h; exact ha _ h)).trans h), n⟩)
  | _, _, .scr (a := b) (.inl ⟨.inr ⟨o, h⟩, n⟩) => .scr (.inl ⟨.inr ⟨o, (hk b (fun e => by rw [e] at h; exact ha _ h)).trans h⟩, n⟩)
  | _, _, .scr (.inr k) => .scr (.inr k)
  | _, _, .adr a => .adr a
theorem RpA.off {a : Addr} (hk : ∀ b, b ≠ a → H' b = H b) (ha : ∀ o, H a = some o → match o with | .lst _ => False | .tup _ => False | .dK _ => False | .tbl _ => False | .frz _ _ => False | _ => True) : ∀ {vs : List V} {ds : List D}, RpA K M H vs ds → RpA K M H' vs ds
  | _, _, .nil => .nil
  | _, _, .cons h t => .cons (Rp.off hk ha h) (RpA.off hk ha t)
theorem RpK.off {a : Addr} (hk : ∀ b, b ≠ a → H' b = H b) (ha : ∀ o, H a = some o → match o with | .lst _ => False | .tup _ => False | .dK _ => False | .tbl _ => False | .frz _ _ => False | _ => True) : ∀ {vs : List (Key × V)} {ds : List (Ky × D)}, RpK K M H vs ds → RpK K M H' vs ds
  | _, _, .nil => .nil
  | _, _, .cons k h t => .cons k (Rp.off hk ha h) (RpK.off hk ha t)
end
theorem RpA.len : ∀ {vs : List V} {ds : List D}, RpA K M H vs ds → vs.length = ds.length
  | _, _, .nil => rfl
  | _, _, .cons _ t => by rw [List.length_cons, List.length_cons, RpA.len t]
theorem RpA.get : ∀ {vs : List V} {ds : List D} {i : Nat} {d : D}, RpA K M H vs ds → ds[i]? = some d → ∃ v, vs[i]? = some v ∧ Rp K M H v d
  | _, _, _, _, .nil, e => by simp at e
  | _, _, 0, _, .cons h _, e => by simp at e; subst e; exact ⟨_, rfl, h⟩
  | _, _, i + 1, d, .cons _ t, e => by
    obtain ⟨v, h1, h2⟩ := RpA.get (i := i) (d := d) t (by simpa using e)
    exact ⟨v, by simpa using h1, h2⟩
theorem RpA.append : ∀ {vs ws : List V} {ds es : List D}, RpA K M H vs ds → RpA K M H ws es → RpA K M H (vs ++ ws) (ds ++ es)
  | _, _, _, _, .nil, s => s
  | _, _, _, _, .cons h t, s => .cons h (RpA.append t s)
theorem RpA.take : ∀ {vs : List V} {ds : List D} (n : Nat), RpA K M H vs ds → RpA K M H (vs.take n) (ds.take n)
  | _, _, 0, _ => .nil
  | _, _, _ + 1, .nil => .nil
  | _, _, n + 1, .cons h t => .cons h (RpA.take n t)
theorem RpA.drop : ∀ {vs : List V} {ds : List D} (n : Nat), RpA K M H vs ds → RpA K M H (vs.drop n) (ds.drop n)
  | _, _, 0, r => r
  | _, _, _ + 1, .nil => .nil
  | _, _, n + 1, .cons _ t => RpA.drop n t
theorem RpA.set {v : V} {d : D} (r : Rp K M H v d) : ∀ {vs : List V} {ds : List D} (i : Nat), RpA K M H vs ds → RpA K M H (vs.set i v) (ds.set i d)
  | _, _, _, .nil => .nil
  | _, _, 0, .cons _ t => .cons r t
  | _, _, i + 1, .cons q t => .cons q (RpA.set r i t)
theorem RpA.reverse : ∀ {vs : List V} {ds : List D}, RpA K M H vs ds → RpA K M H vs.reverse ds.reverse
  | _, _, .nil => .nil
  | _, _, .cons h t => by
    rw [List.reverse_cons, List.reverse_cons]
    exact RpA.append (RpA.reverse t) (.cons h .nil)
theorem RpA.rep {vs : List V} {ds : List D} (h : RpA K M H vs ds) : ∀ k : Nat, RpA K M H (List.replicate k vs).flatten (List.replicate k ds).flatten
  | 0 => .nil
  | k + 1 => by
    rw [List.replicate_succ, List.replicate_succ, List.flatten_cons, List.flatten_cons]
    exact RpA.append h (RpA.rep h k)
theorem Rp.intV {v : V} {i : Int} (h : Rp K M H v (.int i)) : v = .int i := by cases h; rfl
theorem Rp.strV {v : V} {l : List Nat} (h : Rp K M H v (.str l)) : v = .str (mkS l) := by cases h; rfl
theorem Rp.blV {v : V} {b : Bool} (h : Rp K M H v (.bl b)) : v = .bl b := by cases h; rfl
theorem Rp.nonV {v : V} (h : Rp K M H v .non) : v = .non := by cases h; rfl
theorem Rp.lstV {v : V} {ds : List D} (h : Rp K M H v (.lst ds)) : ∃ a xs, v = .ref a ∧ H a = some (.lst xs) ∧ ¬ M a ∧ RpA K M H xs ds := by
  cases h with | lst h n r => exact ⟨_, _, rfl, h, n, r⟩
theorem Rp.tupV {v : V} {ds : List D} (h : Rp K M H v (.tup ds)) : ∃ a xs, v = .ref a ∧ SqT K H a xs ∧ RpA K M H xs ds := by
  cases h with | tup h r => exact ⟨_, _, rfl, h.elim (fun z => .inl (.inl z.1)) .inr, r⟩
theorem Rp.scrV {v : V} {ns : List Int} (h : Rp K M H v (.scr ns)) : ∃ a, v = .ref a ∧ SqL K H a (ns.map V.int) := by
  cases h with | scr h => exact ⟨_, rfl, h.elim (fun z => .inl z.1) .inr⟩
theorem Rp.adrV {v : V} {a : Addr} (h : Rp K M H v (.adr a)) : v = .ref a := by cases h; rfl
theorem RpA.ints : ∀ ns : List Int, RpA K M H (ns.map V.int) (ns.map D.int)
  | [] => .nil
  | n :: ns => .cons (.int n) (RpA.ints ns)
theorem Rp.dctV {v : V} {ds : List (Ky × D)} (h : Rp K M H v (.dct ds)) : ∃ a xs, v = .ref a ∧ H a = some (.dK xs) ∧ ¬ M a ∧ RpK K M H xs ds := by
  cases h with | dct h n r => exact ⟨_, _, rfl, h, n, r⟩
end

/-! ### the frame's relation -/
structure Bs where
  H0 : Hp
  r0 : Option Addr
  tabs : List Addr
  Z : Addr → Prop
  fx : Addr → Option HO := fun _ => none
/-- the first parameter alone may be handed in by reference -/
def Bs.ra (B : Bs) : Nat → Option Addr
  | 0 => B.r0
  | _ + 1 => none
def Bs.P (B : Bs) (a : Addr) : Prop := ∃ j, B.ra j = some a
def Sl.isOwn : Sl → Prop
  | .own _ => True
  | .ref _ => True
  | _ => False
/-- the containers of these slots -/
def Mt (Z : Addr → Prop) (ss : List Sl) (vs : List (Option V)) (a : Addr) : Prop := Z a ∨ ∃ (j : Nat) (s : Sl), ss[j]? = some s ∧ s.isOwn ∧ vs[j]? = some (some (V.ref a))
def OwnAt (K : PySem.W.Frag) (M : Addr → Prop) (H : Hp) (a : Addr) : D → Prop
  | .lst ds => ∃ xs, H a = some (.lst xs) ∧ RpA K M H xs ds
  | .dct ds => ∃ xs, H a = some (.dK xs) ∧ RpK K M H xs ds
  | _ => False
def TabG (H : Hp) (P : Addr) : Prop := ∃ ps : Array Value, H P = some (.tbl ps) ∧ TriplesOk ps.toList
/-- from a call's entry on -/
structure Ext (P : Addr → Prop) (H H' : Hp) : Prop where
  stay : ∀ a o, H a = some o → ¬ P a → (∀ ps, o ≠ .tbl ps) → H' a = some o
  tbl : ∀ a ps, H a = some (.tbl ps) → ∃ ps', H' a = some (.tbl ps')
/-- an object that no value stands at -/
def Frn : HO → Prop
  | .lst _ => False
  | .tup _ => False
  | .dK _ => False
  | .tbl _ => False
  | .frz _ _ => False
  | _ => True
structure R (K : PySem.W.Frag) (B : Bs) (ss : List Sl) (vs : List (Option V)) (H : Hp) : Prop where
  len : ss.length = vs.length
  val : ∀ (j : Nat) (d : D), ss[j]? = some (Sl.val d) → ∃ v : V, vs[j]? = some (some v) ∧ Rp K (Mt B.Z ss vs) H v d
  own : ∀ (j : Nat) (d : D), ss[j]? = some (Sl.own d) → ∃ a : Addr, vs[j]? = some (some (V.ref a)) ∧ OwnAt K (Mt B.Z ss vs) H a d ∧ B.H0 a = none
  ref : ∀ (j : Nat) (d : D), ss[j]? = some (Sl.ref d) → ∃ a : Addr, B.ra j = some a ∧ vs[j]? = some (some (V.ref a)) ∧ OwnAt K (Mt B.Z ss vs) H a d
  pin : ∀ (j : Nat) (a : Addr), B.ra j = some a → ∃ d : D, ss[j]? = some (Sl.ref d)
  sep : ∀ (i j : Nat) (s t : Sl) (a : Addr), ss[i]? = some s → ss[j]? = some t → s.isOwn → t.isOwn → vs[i]? = some (some (V.ref a)) → vs[j]? = some (some (V.ref a)) → i = j
  ext : Ext B.P B.H0 H
  tab : ∀ a ∈ B.tabs, TabG H a
  zed : ∀ a, B.Z a → ∃ o, H a = some o ∧ ∀ ps, o ≠ .tbl ps
  sepZ : ∀ (j : Nat) (s : Sl) (a : Addr), ss[j]? = some s → s.isOwn → vs[j]? = some (some (V.ref a)) → ¬ B.Z a
  fix : ∀ (a : Addr) (o : HO), B.fx a = some o → H a = some o ∧ Frn o

section
variable {K : PySem.W.Frag} {B : Bs} {ss ts : List Sl} {vs ws : List (Option V)} {H H' : Hp}
theorem OwnAt.mono {M M' : Addr → Prop} {a : Addr} (hs : Stay M H H') (hm : NewM M M' H) (ha : H' a = H a) : ∀ {d : D}, OwnAt K M H a d → OwnAt K M' H' a d
  | .lst ds, ⟨xs, h, r⟩ => ⟨xs, ha.trans h, r.mono hs hm⟩
  | .dct ds, ⟨xs, h, r⟩ => ⟨xs, ha.trans h, r.mono hs hm⟩
theorem OwnAt.obj {M : Addr → Prop} {a : Addr} {d : D} (h : OwnAt K M H a d) : ∃ o, H a = some o ∧ (∀ ps, o ≠ .tbl ps) := by
  cases d with
  | lst ds => obtain ⟨xs, h, _⟩ := h; exact ⟨_, h, fun _ e => by cases e⟩
  | dct ds => obtain ⟨xs, h, _⟩ := h; exact ⟨_, h, fun _ e => by cases e⟩
  | _ => exact h.elim
theorem OwnAt.rp {M : Addr → Prop} {a : Addr} {d : D} (h : OwnAt K M H a d) (n : ¬ M a) : Rp K M H (.ref a) d := by
  cases d with
  | lst ds => obtain ⟨xs, h, r⟩ := h; exact .lst h n r
  | dct ds => obtain ⟨xs, h, r⟩ := h; exact .dct h n r
  | _ => exact h.elim
theorem R.mt (r : R K B ss vs H) {a : Addr} (m : ∃ (j : Nat) (s : Sl), ss[j]? = some s ∧ s.isOwn ∧ vs[j]? = some (some (V.ref a))) : ∃ d, OwnAt K (Mt B.Z ss vs) H a d := by
  obtain ⟨j, s, e, o, v⟩ := m
  cases s with
  | no => exact o.elim
  | val d => exact o.elim
  | own d =>
    obtain ⟨b, h1, h2, _⟩ := r.own j d e
    rw [v] at h1; cases h1
    exact ⟨d, h2⟩
  | ref d =>
    obtain ⟨b, _, h1, h2⟩ := r.ref j d e
    rw [v] at h1; cases h1
    exact ⟨d, h2⟩
theorem R.mt_some (r : R K B ss vs H) {a : Addr} (m : Mt B.Z ss vs a) : ∃ o, H a = some o ∧ (∀ ps, o ≠ .tbl ps) := m.elim (r.zed a) fun m => let ⟨_, h⟩ := r.mt m; h.obj
/-- an address that is new here was new at the entry -/
theorem R.new0 (r : R K B ss vs H) {p : Addr} (hp : H p = none) : B.H0 p = none := by
  cases e : B.H0 p with
  | none => rfl
  | some o =>
    exfalso
    by_cases hP : B.P p
    · obtain ⟨j, hj⟩ := hP
      obtain ⟨d, hd⟩ := r.pin j p hj
      obtain ⟨a, h1, h2, h3⟩ := r.ref j d hd
      rw [hj] at h1; cases h1
      obtain ⟨o', h4, _⟩ := h3.obj
      rw [hp] at h4; cases h4
    · by_cases ht : ∃ ps, o = .tbl ps
      · obtain ⟨ps, rfl⟩ := ht
        obtain ⟨ps', h⟩ := r.ext.tbl p ps e
        rw [hp] at h; cases h
      · have h := r.ext.stay p o e hP fun ps z => ht ⟨ps, z⟩
        rw [hp] at h; cases h
/-- the heap grows; nothing that stood changes, but for tables that stay tables -/
structure Grow (T : List Addr) (H H' : Hp) : Prop where
  stay : ∀ a o, H a = some o → (∀ ps, o ≠ .tbl ps) → H' a = some o
  tbl : ∀ a ps, H a = some (.tbl ps) → ∃ ps', H' a = some (.tbl ps')
  tab : ∀ a ∈ T, TabG H a → TabG H' a
theorem Grow.refl {T : List Addr} (H : Hp) : Grow T H H := ⟨fun _ _ h _ => h, fun _ ps h => ⟨ps, h⟩, fun _ _ h => h⟩
theorem Grow.new {T : List Addr} {p : Addr} {o : HO} (hp : H p = none) : Grow T H (upd H p o) :=
  ⟨fun a o' h _ => by rw [upd_ne (ne_of_none h hp)]; exact h, fun a ps h => ⟨ps, by rw [upd_ne (ne_of_none h hp)]; exact h⟩, fun a _ ⟨ps, h, t⟩ => ⟨ps, by rw [upd_ne (ne_of_none h hp)]; exact h, t⟩⟩
theorem Grow.trans {T : List Addr} {H1 H2 H3 : Hp} (a : Grow T H1 H2) (b : Grow T H2 H3) : Grow T H1 H3 :=
  ⟨fun c o h n => b.stay c o (a.stay c o h n) n, fun c ps h => by
    obtain ⟨p1, h1⟩ := a.tbl c ps h
    exact b.tbl c p1 h1, fun c hc h => b.tab c hc (a.tab c hc h)⟩
theorem R.grow (r : R K B ss vs H) (g : Grow B.tabs H H') : R K B ss vs H' := by
  have hs : Stay (Mt B.Z ss vs) H H' := fun a o h _ n => g.stay a o h n
  have hm : NewM (Mt B.Z ss vs) (Mt B.Z ss vs) H := fun a m => .inl m
  have ho : ∀ {a d}, OwnAt K (Mt B.Z ss vs) H a d → OwnAt K (Mt B.Z ss vs) H' a d := fun {a d} h => by
    obtain ⟨o, e, n⟩ := h.obj
    exact h.mono hs hm ((g.stay a o e n).trans e.symm)
  refine ⟨r.len, fun j d e => ?_, fun j d e => ?_, fun j d e => ?_, r.pin, r.sep, ⟨fun a o h n t => g.stay a o (r.ext.stay a o h n t) t, fun a ps h => ?_⟩, fun a ha => ?_, fun a ha => ?_, r.sepZ, fun a o h => ?_⟩
  · obtain ⟨v, h1, h2⟩ := r.val j d e
    exact ⟨v, h1, h2.mono hs hm⟩
  · obtain ⟨a, h1, h2, h3⟩ := r.own j d e
    exact ⟨a, h1, ho h2, h3⟩
  · obtain ⟨a, h0, h1, h2⟩ := r.ref j d e
    exact ⟨a, h0, h1, ho h2⟩
  · obtain ⟨p1, h1⟩ := r.ext.tbl a ps h
    exact g.tbl a p1 h1
  · exact g.tab a ha (r.tab a ha)
  · obtain ⟨o, h1, h2⟩ := r.zed a ha
    exact ⟨o, g.stay a o h1 h2, h2⟩
  · obtain ⟨h1, h2⟩ := r.fix a o h
    exact ⟨g.stay a o h1 (fun ps e => by rw [e] at h2; exact h2), h2⟩

theorem getA {α : Type} {l m : List α} {j : Nat} {x : α} (h : (l ++ m)[j]? = some x) : (j < l.length ∧ l[j]? = some x) ∨ (l.length ≤ j ∧ m[j - l.length]? = some x) := by
  rcases Nat.lt_or_ge j l.length with hj | hj
  · rw [List.getElem?_append_left hj] at h; exact .inl ⟨hj, h⟩
  · rw [List.getElem?_append_right hj] at h; exact .inr ⟨hj, h⟩
theorem get1 {α : Type} {l : List α} {j : Nat} {x y : α} (h : (l ++ [y])[j]? = some x) : (j < l.length ∧ l[j]? = some x) ∨ (j = l.length ∧ x = y) := by
  rcases getA h with h | ⟨h1, h2⟩
  · exact .inl h
  · by_cases e : j - l.length = 0
    · rw [e] at h2
      exact .inr ⟨by omega, (Option.some.inj h2).symm⟩
    · obtain ⟨k, hk⟩ : ∃ k, j - l.length = k + 1 := ⟨j - l.length - 1, by omega⟩
      rw [hk] at h2; cases h2
theorem getL {α : Type} {l m : List α} {j : Nat} {x : α} (h : l[j]? = some x) : (l ++ m)[j]? = some x := by
  have hj : j < l.length := by
    rcases Nat.lt_or_ge j l.length with hj | hj
    · exact hj
    · rw [List.getElem?_eq_none hj] at h; cases h
  rw [List.getElem?_append_left hj]; exact h
theorem lt_of_get {α : Type} {l : List α} {j : Nat} {x : α} (h : l[j]? = some x) : j < l.length := by
  rcases Nat.lt_or_ge j l.length with hj | hj
  · exact hj
  · rw [List.getElem?_eq_none hj] at h; cases h
theorem getEnd {α : Type} (l : List α) (x : α) : (l ++ [x])[l.length]? = some x := by simp

theorem mt_push_val {Z : Addr → Prop} {d : D} {v : Option V} (hl : ss.length = vs.length) {a : Addr} : Mt Z (ss ++ [.val d]) (vs ++ [v]) a ↔ Mt Z ss vs a := by
  constructor
  · rintro (h | ⟨j, s, h1, h2, h3⟩)
    · exact .inl h
    rcases get1 h1 with ⟨hj, h1⟩ | ⟨_, rfl⟩
    · rcases get1 h3 with ⟨_, h3⟩ | ⟨e, _⟩
      · exact .inr ⟨j, s, h1, h2, h3⟩
      · omega
    · exact h2.elim
  · rintro (h | ⟨j, s, h1, h2, h3⟩)
    · exact .inl h
    exact .inr ⟨j, s, getL h1, h2, getL h3⟩
theorem mt_push_own {Z : Addr → Prop} {d : D} {p : Addr} (hl : ss.length = vs.length) {a : Addr} : Mt Z (ss ++ [.own d]) (vs ++ [some (.ref p)]) a ↔ Mt Z ss vs a ∨ a = p := by
  constructor
  · rintro (h | ⟨j, s, h1, h2, h3⟩)
    · exact .inl (.inl h)
    rcases get1 h1 with ⟨hj, h1⟩ | ⟨ej, rfl⟩
    · rcases get1 h3 with ⟨_, h3⟩ | ⟨e, _⟩
      · exact .inl (.inr ⟨j, s, h1, h2, h3⟩)
      · omega
    · rcases get1 h3 with ⟨hj, h3⟩ | ⟨_, e⟩
      · omega
      · cases e; exact .inr rfl
  · rintro ((h | ⟨j, s, h1, h2, h3⟩) | rfl)
    · exact .inl h
    · exact .inr ⟨j, s, getL h1, h2, getL h3⟩
    · exact .inr ⟨ss.length, _, getEnd _ _, trivial, by rw [hl]; exact getEnd _ _⟩
theorem mt_left {Z : Addr → Prop} {a : Addr} {ts : List Sl} {ws : List (Option V)} : Mt Z ss vs a → Mt Z (ss ++ ts) (vs ++ ws) a
  | .inl h => .inl h
  | .inr ⟨j, s, g1, g2, g3⟩ => .inr ⟨j, s, getL g1, g2, getL g3⟩
theorem rp_congr {M M' : Addr → Prop} (h : ∀ a, M' a → M a) {v : V} {d : D} (r : Rp K M H v d) : Rp K M' H v d := r.mono (fun a o h _ _ => h) fun a m => .inl (h a m)
theorem own_congr {M M' : Addr → Prop} (h : ∀ a, M' a → M a) {a : Addr} {d : D} (r : OwnAt K M H a d) : OwnAt K M' H a d := r.mono (fun a o h _ _ => h) (fun a m => .inl (h a m)) rfl
theorem R.push_val (r : R K B ss vs H) {v : V} {d : D} (h : Rp K (Mt B.Z ss vs) H v d) : R K B (ss ++ [.val d]) (vs ++ [some v]) H := by
  have mm : ∀ a, Mt B.Z (ss ++ [.val d]) (vs ++ [some v]) a → Mt B.Z ss vs a := fun a m => (mt_push_val r.len).mp m
  refine ⟨by simp [r.len], fun j e h1 => ?_, fun j e h1 => ?_, fun j e h1 => ?_, fun j a h1 => ?_, fun i j s t a h1 h2 o1 o2 h3 h4 => ?_, r.ext, r.tab, r.zed, fun j s a h1 o1 h3 => ?_, r.fix⟩
  · rcases get1 h1 with ⟨hj, h1⟩ | ⟨ej, e1⟩
    · obtain ⟨u, h2, h3⟩ := r.val j e h1
      exact ⟨u, getL h2, rp_congr mm h3⟩
    · cases e1
      exact ⟨v, by rw [ej, r.len]; exact getEnd _ _, rp_congr mm h⟩
  · rcases get1 h1 with ⟨hj, h1⟩ | ⟨ej, e1⟩
    · obtain ⟨u, h2, h3, h4⟩ := r.own j e h1
      exact ⟨u, getL h2, own_congr mm h3, h4⟩
    · cases e1
  · rcases get1 h1 with ⟨hj, h1⟩ | ⟨ej, e1⟩
    · obtain ⟨u, h2, h3, h4⟩ := r.ref j e h1
      exact ⟨u, h2, getL h3, own_congr mm h4⟩
    · cases e1
  · obtain ⟨d, h2⟩ := r.pin j a h1
    exact ⟨d, getL h2⟩
  · rcases get1 h1 with ⟨hi, h1⟩ | ⟨_, rfl⟩
    · rcases get1 h2 with ⟨hj, h2⟩ | ⟨_, rfl⟩
      · rcases get1 h3 with ⟨_, h3⟩ | ⟨e, _⟩
        · rcases get1 h4 with ⟨_, h4⟩ | ⟨e, _⟩
          · exact r.sep i j s t a h1 h2 o1 o2 h3 h4
          · have := r.len; omega
        · have := r.len; omega
      · exact o2.elim
    · exact o1.elim
  · rcases get1 h1 with ⟨hi, h1⟩ | ⟨_, rfl⟩
    · rcases get1 h3 with ⟨_, h3⟩ | ⟨e, _⟩
      · exact r.sepZ j s a h1 o1 h3
      · have := r.len; omega
    · exact o1.elim
def OwnNew (K : PySem.W.Frag) (M : Addr → Prop) (H H' : Hp) (a : Addr) : D → Prop
  | .lst ds => ∃ xs, H' a = some (.lst xs) ∧ RpA K M H xs ds
  | .dct ds => ∃ xs, H' a = some (.dK xs) ∧ RpK K M H xs ds
  | _ => False
theorem R.push_own2 (r : R K B ss vs H) {p : Addr} {d : D} (hp : H p = none) (g : Grow B.tabs H H') (hself : OwnAt K (Mt B.Z (ss ++ [.own d]) (vs ++ [some (.ref p)])) H' p d) : R K B (ss ++ [.own d]) (vs ++ [some (.ref p)]) H' := by
  have hp0 := r.new0 hp
  have r2 := r.grow g
  have np : ¬ Mt B.Z ss vs p := fun m => by
    obtain ⟨o, e, _⟩ := r.mt_some m
    rw [hp] at e; cases e
  have hs : Stay (Mt B.Z ss vs) H H' := fun a o h _ n => g.stay a o h n
  have hm : NewM (Mt B.Z ss vs) (Mt B.Z (ss ++ [.own d]) (vs ++ [some (.ref p)])) H := fun a m => by
    rcases (mt_push_own r.len).mp m with m | rfl
    · exact .inl m
    · exact .inr hp
  have ho : ∀ {a d'}, OwnAt K (Mt B.Z ss vs) H a d' → OwnAt K (Mt B.Z (ss ++ [.own d]) (vs ++ [some (.ref p)])) H' a d' := fun {a d'} h => by
    obtain ⟨o, e, n⟩ := h.obj
    exact h.mono hs hm ((g.stay a o e n).trans e.symm)
  · skip
    refine ⟨by simp [r.len], fun j e h1 => ?_, fun j e h1 => ?_, fun j e h1 => ?_, fun j a h1 => ?_, fun i j s t a h1 h2 o1 o2 h3 h4 => ?_, r2.ext, r2.tab, r2.zed, fun j s a h1 o1 h3 => ?_, r2.fix⟩
    · rcases get1 h1 with ⟨hj, h1⟩ | ⟨ej, e1⟩
      · obtain ⟨u, h2, h3⟩ := r.val j e h1
        exact ⟨u, getL h2, h3.mono hs hm⟩
      · cases e1
    · rcases get1 h1 with ⟨hj, h1⟩ | ⟨ej, e1⟩
      · obtain ⟨u, h2, h3, h4⟩ := r.own j e h1
        exact ⟨u, getL h2, ho h3, h4⟩
      · cases e1
        exact ⟨p, by rw [ej, r.len]; exact getEnd _ _, hself, hp0⟩
    · rcases get1 h1 with ⟨hj, h1⟩ | ⟨ej, e1⟩
      · obtain ⟨u, h2, h3, h4⟩ := r.ref j e h1
        exact ⟨u, h2, getL h3, ho h4⟩
      · cases e1
    · obtain ⟨d, h2⟩ := r.pin j a h1
      exact ⟨d, getL h2⟩
    · have mtOf : ∀ {i s a}, i < ss.length → ss[i]? = some s → s.isOwn → (vs ++ [some (.ref p)])[i]? = some (some (V.ref a)) → Mt B.Z ss vs a := fun {i s a} hi hs ho hv => by
        rcases get1 hv with ⟨_, hv⟩ | ⟨e, _⟩
        · exact .inr ⟨i, s, hs, ho, hv⟩
        · have := r.len; omega
      have topOf : ∀ {i a}, i = ss.length → (vs ++ [some (.ref p)])[i]? = some (some (V.ref a)) → a = p := fun {i a} hi hv => by
        rcases get1 hv with ⟨hj, _⟩ | ⟨_, e⟩
        · have := r.len; omega
        · cases e; rfl
      rcases get1 h1 with ⟨hi, h1⟩ | ⟨ei, rfl⟩
      · rcases get1 h2 with ⟨hj, h2⟩ | ⟨ej, rfl⟩
        · rcases get1 h3 with ⟨_, h3⟩ | ⟨e, _⟩
          · rcases get1 h4 with ⟨_, h4⟩ | ⟨e, _⟩
            · exact r.sep i j s t a h1 h2 o1 o2 h3 h4
            · have := r.len; omega
          · have := r.len; omega
        · have e := topOf ej h4
          subst e
          exact (np (mtOf hi h1 o1 h3)).elim
      · rcases get1 h2 with ⟨hj, h2⟩ | ⟨ej, rfl⟩
        · have e := topOf ei h3
          subst e
          exact (np (mtOf hj h2 o2 h4)).elim
        · omega
    · rcases get1 h1 with ⟨hi, h1⟩ | ⟨ei, rfl⟩
      · rcases get1 h3 with ⟨_, h3⟩ | ⟨e, _⟩
        · exact r.sepZ j s a h1 o1 h3
        · have := r.len; omega
      · rcases get1 h3 with ⟨hj, _⟩ | ⟨_, e⟩
        · have := r.len; omega
        · cases e
          exact fun z => np (.inl z)
/-- a new container on top; g: the heap with it -/
theorem R.push_own (r : R K B ss vs H) {p : Addr} {d : D} (hp : H p = none) (g : Grow B.tabs H H') (h : OwnNew K (Mt B.Z ss vs) H H' p d) : R K B (ss ++ [.own d]) (vs ++ [some (.ref p)]) H' := by
  have hs : Stay (Mt B.Z ss vs) H H' := fun a o h _ n => g.stay a o h n
  have hm : NewM (Mt B.Z ss vs) (Mt B.Z (ss ++ [.own d]) (vs ++ [some (.ref p)])) H := fun a m => by
    rcases (mt_push_own r.len).mp m with m | rfl
    · exact .inl m
    · exact .inr hp
  refine r.push_own2 hp g ?_
  cases d with
  | lst ds =>
    obtain ⟨xs, e, ra⟩ := h
    exact ⟨xs, e, ra.mono hs hm⟩
  | dct ds =>
    obtain ⟨xs, e, ra⟩ := h
    exact ⟨xs, e, ra.mono hs hm⟩
  | _ => exact h.elim
/-- the last one is dropped -/
theorem R.pop {s : Sl} {v : Option V} (r : R K B (ss ++ [s]) (vs ++ [v]) H) (hs : ∀ d, s ≠ .ref d) : R K B ss vs H := by
  have hl : ss.length = vs.length := by have := r.len; simp at this; exact this
  have mm : ∀ a, Mt B.Z ss vs a → Mt B.Z (ss ++ [s]) (vs ++ [v]) a := fun a m => mt_left m
  have gv : ∀ {j : Nat} {x : Option V}, j < ss.length → (vs ++ [v])[j]? = some x → vs[j]? = some x := fun {j x} hj h => by
    rcases get1 h with ⟨_, h⟩ | ⟨e, _⟩
    · exact h
    · omega
  refine ⟨hl, fun j e h1 => ?_, fun j e h1 => ?_, fun j e h1 => ?_, fun j a h1 => ?_, fun i j s t a h1 h2 o1 o2 h3 h4 => ?_, r.ext, r.tab, r.zed, fun j s a h1 o1 h3 => r.sepZ j s a (getL h1) o1 (getL h3), r.fix⟩
  · obtain ⟨u, h2, h3⟩ := r.val j e (getL h1)
    exact ⟨u, gv (lt_of_get h1) h2, rp_congr mm h3⟩
  · obtain ⟨u, h2, h3, h4⟩ := r.own j e (getL h1)
    exact ⟨u, gv (lt_of_get h1) h2, own_congr mm h3, h4⟩
  · obtain ⟨u, h2, h3, h4⟩ := r.ref j e (getL h1)
    exact ⟨u, h2, gv (lt_of_get h1) h3, own_congr mm h4⟩
  · obtain ⟨d, h2⟩ := r.pin j a h1
    rcases get1 h2 with ⟨_, h2⟩ | ⟨e, e2⟩
    · exact ⟨d, h2⟩
    · exact (hs _ e2.symm).elim
  · exact r.sep i j s t a (getL h1) (getL h2) o1 o2 (getL h3) (getL h4)
theorem getSet {α : Type} {l : List α} {i j : Nat} {x y : α} (h : (l.set i y)[j]? = some x) : (j = i ∧ x = y) ∨ (j ≠ i ∧ l[j]? = some x) := by
  by_cases e : i = j
  · subst e
    have hi : i < l.length := by have := lt_of_get h; simpa using this
    rw [List.getElem?_set_self hi] at h
    exact .inl ⟨rfl, (Option.some.inj h).symm⟩
  · rw [List.getElem?_set_ne e] at h
    exact .inr ⟨fun z => e z.symm, h⟩
/-- an own container is frozen -/
theorem R.freeze {i : Nat} {d : D} (r : R K B ss vs H) (h : ss[i]? = some (.own d)) : R K B (ss.set i (.val d)) vs H := by
  obtain ⟨a, hv, ho, h0⟩ := r.own i d h
  have hi := lt_of_get h
  have mm : ∀ b, Mt B.Z (ss.set i (.val d)) vs b → Mt B.Z ss vs b := fun b m => m.elim .inl fun ⟨j, t, h1, h2, h3⟩ => by
    rcases getSet h1 with ⟨_, rfl⟩ | ⟨_, h1⟩
    · exact h2.elim
    · exact .inr ⟨j, t, h1, h2, h3⟩
  have na : ¬ Mt B.Z (ss.set i (.val d)) vs a := fun m => m.elim (r.sepZ i _ a h trivial hv) fun ⟨j, t, h1, h2, h3⟩ => by
    rcases getSet h1 with ⟨_, rfl⟩ | ⟨ne, h1⟩
    · exact h2.elim
    · exact ne (r.sep j i t _ a h1 h h2 trivial h3 hv)
  refine ⟨by simp [r.len], fun j e h1 => ?_, fun j e h1 => ?_, fun j e h1 => ?_, fun j b h1 => ?_, fun i1 j s t b h1 h2 o1 o2 h3 h4 => ?_, r.ext, r.tab, r.zed, fun j s b h1 o1 h3 => ?_, r.fix⟩
  · rcases getSet h1 with ⟨rfl, e1⟩ | ⟨_, h1⟩
    · cases e1
      exact ⟨_, hv, (own_congr mm ho).rp na⟩
    · obtain ⟨u, h2, h3⟩ := r.val j e h1
      exact ⟨u, h2, rp_congr mm h3⟩
  · rcases getSet h1 with ⟨_, e1⟩ | ⟨_, h1⟩
    · cases e1
    · obtain ⟨u, h2, h3, h4⟩ := r.own j e h1
      exact ⟨u, h2, own_congr mm h3, h4⟩
  · rcases getSet h1 with ⟨_, e1⟩ | ⟨_, h1⟩
    · cases e1
    · obtain ⟨u, h2, h3, h4⟩ := r.ref j e h1
      exact ⟨u, h2, h3, own_congr mm h4⟩
  · obtain ⟨e, h2⟩ := r.pin j b h1
    by_cases hj : i = j
    · subst hj; rw [h] at h2; cases h2
    · exact ⟨e, by rw [List.getElem?_set_ne hj]; exact h2⟩
  · rcases getSet h1 with ⟨_, rfl⟩ | ⟨_, h1⟩
    · exact o1.elim
    · rcases getSet h2 with ⟨_, rfl⟩ | ⟨_, h2⟩
      · exact o2.elim
      · exact r.sep i1 j s t b h1 h2 o1 o2 h3 h4
  · rcases getSet h1 with ⟨_, rfl⟩ | ⟨_, h1⟩
    · exact o1.elim
    · exact r.sepZ j s b h1 o1 h3
/-- a slot that is not handed in is forgotten -/
theorem R.forget {i : Nat} {s : Sl} (r : R K B ss vs H) (h : ss[i]? = some s) (hr : ∀ d, s ≠ .ref d) (v : Option V) : R K B (ss.set i .no) (vs.set i v) H := by
  have hi := lt_of_get h
  have mm : ∀ b, Mt B.Z (ss.set i .no) (vs.set i v) b → Mt B.Z ss vs b := fun b m => m.elim .inl fun ⟨j, t, h1, h2, h3⟩ => by
    rcases getSet h1 with ⟨_, rfl⟩ | ⟨ne, h1⟩
    · exact h2.elim
    · rcases getSet h3 with ⟨e, _⟩ | ⟨_, h3⟩
      · exact (ne e).elim
      · exact .inr ⟨j, t, h1, h2, h3⟩
  have sv : ∀ {j : Nat} {x : Option V}, j ≠ i → vs[j]? = some x → (vs.set i v)[j]? = some x := fun {j x} ne h => by
    rw [List.getElem?_set_ne (Ne.symm ne)]; exact h
  refine ⟨by simp [r.len], fun j e h1 => ?_, fun j e h1 => ?_, fun j e h1 => ?_, fun j b h1 => ?_, fun i1 j s t b h1 h2 o1 o2 h3 h4 => ?_, r.ext, r.tab, r.zed, fun j s b h1 o1 h3 => ?_, r.fix⟩
  · rcases getSet h1 with ⟨_, e1⟩ | ⟨ne, h1⟩
    · cases e1
    · obtain ⟨u, h2, h3⟩ := r.val j e h1
      exact ⟨u, sv ne h2, rp_congr mm h3⟩
  · rcases getSet h1 with ⟨_, e1⟩ | ⟨ne, h1⟩
    · cases e1
    · obtain ⟨u, h2, h3, h4⟩ := r.own j e h1
      exact ⟨u, sv ne h2, own_congr mm h3, h4⟩
  · rcases getSet h1 with ⟨_, e1⟩ | ⟨ne, h1⟩
    · cases e1
    · obtain ⟨u, h2, h3, h4⟩ := r.ref j e h1
      exact ⟨u, h2, sv ne h3, own_congr mm h4⟩
  · obtain ⟨e, h2⟩ := r.pin j b h1
    by_cases hj : i = j
    · subst hj; rw [h] at h2; exact (hr e (Option.some.inj h2)).elim
    · exact ⟨e, by rw [List.getElem?_set_ne hj]; exact h2⟩
  · rcases getSet h1 with ⟨_, rfl⟩ | ⟨n1, h1⟩
    · exact o1.elim
    · rcases getSet h2 with ⟨_, rfl⟩ | ⟨n2, h2⟩
      · exact o2.elim
      · rcases getSet h3 with ⟨e, _⟩ | ⟨_, h3⟩
        · exact (n1 e).elim
        · rcases getSet h4 with ⟨e, _⟩ | ⟨_, h4⟩
          · exact (n2 e).elim
          · exact r.sep i1 j s t b h1 h2 o1 o2 h3 h4
  · rcases getSet h1 with ⟨_, rfl⟩ | ⟨n1, h1⟩
    · exact o1.elim
    · rcases getSet h3 with ⟨e, _⟩ | ⟨_, h3⟩
      · exact (n1 e).elim
      · exact r.sepZ j s b h1 o1 h3
/-- the last one moves to an empty slot i -/
theorem R.moveIn {i : Nat} {s : Sl} {v : Option V} (r : R K B (ss ++ [s]) (vs ++ [v]) H) (hs : ∀ d, s ≠ .ref d) (h : ss[i]? = some .no) : R K B (ss.set i s) (vs.set i v) H := by
  have hl : ss.length = vs.length := by have := r.len; simp at this; exact this
  have hi := lt_of_get h
  have top : (ss ++ [s])[ss.length]? = some s := getEnd _ _
  have topv : (vs ++ [v])[ss.length]? = some v := by rw [hl]; exact getEnd _ _
  -- places: j of the new one is π j of the old
  have old : ∀ {j : Nat} {t : Sl}, (ss.set i s)[j]? = some t → ∃ k, (ss ++ [s])[k]? = some t ∧ (∀ x, (vs ++ [v])[k]? = some x → (vs.set i v)[j]? = some x) ∧ (∀ x, (vs.set i v)[j]? = some x → (vs ++ [v])[k]? = some x) ∧ ((j = i ∧ k = ss.length) ∨ (j ≠ i ∧ k = j)) := fun {j t} h1 => by
    rcases getSet h1 with ⟨rfl, rfl⟩ | ⟨ne, h1⟩
    · refine ⟨ss.length, top, fun x e => ?_, fun x e => ?_, .inl ⟨rfl, rfl⟩⟩
      · rw [topv] at e; cases e
        rw [List.getElem?_set_self (by omega)]
      · rw [List.getElem?_set_self (by omega)] at e; cases e
        exact topv
    · refine ⟨j, getL h1, fun x e => ?_, fun x e => ?_, .inr ⟨ne, rfl⟩⟩
      · rcases get1 e with ⟨_, e⟩ | ⟨z, _⟩
        · rw [List.getElem?_set_ne (Ne.symm ne)]; exact e
        · have := lt_of_get h1; omega
      · rcases getSet e with ⟨z, _⟩ | ⟨_, e⟩
        · exact (ne z).elim
        · exact getL e
  have mm : ∀ b, Mt B.Z (ss.set i s) (vs.set i v) b → Mt B.Z (ss ++ [s]) (vs ++ [v]) b := fun b m => m.elim .inl fun ⟨j, t, h1, h2, h3⟩ => by
    obtain ⟨k, g1, _, g3, _⟩ := old h1
    exact .inr ⟨k, t, g1, h2, g3 _ h3⟩
  refine ⟨by simp [hl], fun j e h1 => ?_, fun j e h1 => ?_, fun j e h1 => ?_, fun j b h1 => ?_, fun i1 j s1 t b h1 h2 o1 o2 h3 h4 => ?_, r.ext, r.tab, r.zed, fun j s b h1 o1 h3 => ?_, r.fix⟩
  · obtain ⟨k, g1, g2, g3, _⟩ := old h1
    obtain ⟨u, h2, h3⟩ := r.val k e g1
    exact ⟨u, g2 _ h2, rp_congr mm h3⟩
  · obtain ⟨k, g1, g2, g3, _⟩ := old h1
    obtain ⟨u, h2, h3, h4⟩ := r.own k e g1
    exact ⟨u, g2 _ h2, own_congr mm h3, h4⟩
  · obtain ⟨k, g1, g2, g3, g4⟩ := old h1
    obtain ⟨u, h2, h3, h4⟩ := r.ref k e g1
    rcases g4 with ⟨rfl, rfl⟩ | ⟨_, rfl⟩
    · rw [top] at g1
      exact (hs _ (Option.some.inj g1)).elim
    · exact ⟨u, h2, g2 _ h3, own_congr mm h4⟩
  · obtain ⟨e, h2⟩ := r.pin j b h1
    rcases get1 h2 with ⟨hj, h2⟩ | ⟨_, e2⟩
    · by_cases hj : i = j
      · subst hj; rw [h] at h2; cases h2
      · exact ⟨e, by rw [List.getElem?_set_ne hj]; exact h2⟩
    · exact (hs _ e2.symm).elim
  · obtain ⟨k, g1, g2, g3, g4⟩ := old h1
    obtain ⟨k', g1', g2', g3', g4'⟩ := old h2
    have e := r.sep k k' s1 t b g1 g1' o1 o2 (g3 _ h3) (g3' _ h4)
    rcases g4 with ⟨rfl, rfl⟩ | ⟨_, rfl⟩
    · rcases g4' with ⟨rfl, _⟩ | ⟨_, rfl⟩
      · rfl
      · have := lt_of_get h2; simp at this; omega
    · rcases g4' with ⟨rfl, rfl⟩ | ⟨_, rfl⟩
      · have := lt_of_get h1; simp at this; omega
      · exact e
  · obtain ⟨k, g1, g2, g3, g4⟩ := old h1
    exact r.sepZ k s b g1 o1 (g3 _ h3)
/-- a container's content changes, and new things may be laid -/
theorem R.mutateG {i : Nat} {s s' : Sl} {d d' : D} {a : Addr} (r : R K B ss vs H) (h : ss[i]? = some s) (hs : s = .own d ∧ s' = .own d' ∨ s = .ref d ∧ s' = .ref d') (hv : vs[i]? = some (some (.ref a)))
    (hk : ∀ b o, H b = some o → b ≠ a → (∀ ps, o ≠ .tbl ps) → H' b = some o) (ht : ∀ b ps, H b = some (.tbl ps) → ∃ ps', H' b = some (.tbl ps')) (hT : ∀ b ∈ B.tabs, TabG H b → TabG H' b)
    (ho : OwnAt K (Mt B.Z ss vs) H' a d') : R K B (ss.set i s') vs H' := by
  have own_s : s.isOwn := by rcases hs with ⟨rfl, _⟩ | ⟨rfl, _⟩ <;> exact trivial
  have own_s' : s'.isOwn := by rcases hs with ⟨_, rfl⟩ | ⟨_, rfl⟩ <;> exact trivial
  have ma : Mt B.Z ss vs a := .inr ⟨i, s, h, own_s, hv⟩
  have nz : ¬ B.Z a := r.sepZ i s a h own_s hv
  have hi := lt_of_get h
  have mm : ∀ b, Mt B.Z (ss.set i s') vs b → Mt B.Z ss vs b := fun b m => m.elim .inl fun ⟨j, t, h1, h2, h3⟩ => by
    rcases getSet h1 with ⟨rfl, rfl⟩ | ⟨_, h1⟩
    · exact .inr ⟨j, s, h, own_s, h3⟩
    · exact .inr ⟨j, t, h1, h2, h3⟩
  have hst : Stay (Mt B.Z ss vs) H H' := fun b o hb n t => by
    have ne : b ≠ a := fun e => n (by rw [e]; exact ma)
    exact hk b o hb ne t
  have hnm : NewM (Mt B.Z ss vs) (Mt B.Z (ss.set i s') vs) H := fun b m => .inl (mm b m)
  have hov : ∀ {j : Nat} {t : Sl} {b : Addr} {e : D}, j ≠ i → ss[j]? = some t → t.isOwn → vs[j]? = some (some (.ref b)) → OwnAt K (Mt B.Z ss vs) H b e → OwnAt K (Mt B.Z (ss.set i s') vs) H' b e := fun {j t b e} ne g1 g2 g3 g4 => by
    obtain ⟨o, q1, q2⟩ := g4.obj
    exact g4.mono hst hnm ((hk b o q1 (fun z => ne (r.sep j i t s a g1 h g2 own_s (z ▸ g3) hv)) q2).trans q1.symm)
  have ha0 : ∀ o, B.H0 a = some o → ¬ B.P a → False := fun o e nP => by
    rcases hs with ⟨rfl, _⟩ | ⟨rfl, _⟩
    · obtain ⟨b, g1, _, g3⟩ := r.own i d h
      rw [hv] at g1; cases g1
      rw [e] at g3; cases g3
    · obtain ⟨b, g0, g1, _⟩ := r.ref i d h
      rw [hv] at g1; cases g1
      exact nP ⟨i, g0⟩
  have hta : ∀ ps, H a ≠ some (.tbl ps) := fun ps e => by
    obtain ⟨o, g, n⟩ := r.mt_some ma
    rw [e] at g; cases g
    exact n ps rfl
  refine ⟨by simp [r.len], fun j e h1 => ?_, fun j e h1 => ?_, fun j e h1 => ?_, fun j b h1 => ?_, fun i1 j s1 t b h1 h2 o1 o2 h3 h4 => ?_, ⟨fun b o hb n t => ?_, fun b ps hb => ?_⟩, fun b hb => ?_, fun b hb => ?_, fun j t b h1 o1 h3 => ?_, fun b o hb => ?_⟩
  · rcases getSet h1 with ⟨_, e1⟩ | ⟨ne, h1⟩
    · subst e1
      exact own_s'.elim
    · obtain ⟨u, h2, h3⟩ := r.val j e h1
      exact ⟨u, h2, h3.mono hst hnm⟩
  · rcases getSet h1 with ⟨rfl, e1⟩ | ⟨ne, h1⟩
    · rcases hs with ⟨rfl, rfl⟩ | ⟨_, rfl⟩
      · cases e1
        obtain ⟨b, g1, _, g3⟩ := r.own j d h
        rw [hv] at g1; cases g1
        exact ⟨a, hv, own_congr mm ho, g3⟩
      · cases e1
    · obtain ⟨u, h2, h3, h4⟩ := r.own j e h1
      exact ⟨u, h2, hov ne h1 trivial h2 h3, h4⟩
  · rcases getSet h1 with ⟨rfl, e1⟩ | ⟨ne, h1⟩
    · rcases hs with ⟨_, rfl⟩ | ⟨rfl, rfl⟩
      · cases e1
      · cases e1
        obtain ⟨b, g0, g1, _⟩ := r.ref j d h
        rw [hv] at g1; cases g1
        exact ⟨a, g0, hv, own_congr mm ho⟩
    · obtain ⟨u, h2, h3, h4⟩ := r.ref j e h1
      exact ⟨u, h2, h3, hov ne h1 trivial h3 h4⟩
  · obtain ⟨e, h2⟩ := r.pin j b h1
    by_cases hj : i = j
    · subst hj
      rw [h] at h2; cases h2
      rcases hs with ⟨e3, _⟩ | ⟨_, rfl⟩
      · cases e3
      · exact ⟨d', List.getElem?_set_self hi⟩
    · exact ⟨e, by rw [List.getElem?_set_ne hj]; exact h2⟩
  · have g : ∀ {j : Nat} {t : Sl}, (ss.set i s')[j]? = some t → t.isOwn → ∃ t', ss[j]? = some t' ∧ t'.isOwn := fun {j t} h1 h2 => by
      rcases getSet h1 with ⟨rfl, rfl⟩ | ⟨_, h1⟩
      · exact ⟨s, h, own_s⟩
      · exact ⟨t, h1, h2⟩
    obtain ⟨t1, g1, g2⟩ := g h1 o1
    obtain ⟨t2, g3, g4⟩ := g h2 o2
    exact r.sep i1 j t1 t2 b g1 g3 g2 g4 h3 h4
  · have q := r.ext.stay b o hb n t
    by_cases e : b = a
    · subst e; exact (ha0 o hb n).elim
    · exact hk b o q e t
  · obtain ⟨p1, q⟩ := r.ext.tbl b ps hb
    exact ht b p1 q
  · exact hT b hb (r.tab b hb)
  · obtain ⟨o, q, z⟩ := r.zed b hb
    have ne : b ≠ a := fun e => nz (by rw [← e]; exact hb)
    exact ⟨o, hk b o q ne z, z⟩
  · rcases getSet h1 with ⟨rfl, rfl⟩ | ⟨_, h1⟩
    · exact r.sepZ j s b h own_s h3
    · exact r.sepZ j t b h1 o1 h3
  · obtain ⟨q, z⟩ := r.fix b o hb
    have ne : b ≠ a := fun e => by
      obtain ⟨d0, hd0⟩ := r.mt ⟨i, s, h, own_s, hv⟩
      rw [e] at q
      cases d0 with
      | lst l => obtain ⟨xs, w1, _⟩ := hd0; rw [q] at w1; cases w1; exact z
      | dct l => obtain ⟨xs, w1, _⟩ := hd0; rw [q] at w1; cases w1; exact z
      | _ => exact hd0
    exact ⟨hk b o q ne (fun ps e => by rw [e] at z; exact z), z⟩
theorem R.mutate {i : Nat} {s s' : Sl} {d d' : D} {a : Addr} (r : R K B ss vs H) (h : ss[i]? = some s) (hs : s = .own d ∧ s' = .own d' ∨ s = .ref d ∧ s' = .ref d') (hv : vs[i]? = some (some (.ref a))) {o' : HO}
    (ho : OwnAt K (Mt B.Z ss vs) (upd H a o') a d') : R K B (ss.set i s') vs (upd H a o') := by
  have own_s : s.isOwn := by rcases hs with ⟨rfl, _⟩ | ⟨rfl, _⟩ <;> exact trivial
  have hta : ∀ ps, H a ≠ some (.tbl ps) := fun ps e => by
    obtain ⟨o, g, n⟩ := r.mt_some (.inr ⟨i, s, h, own_s, hv⟩)
    rw [e] at g; cases g
    exact n ps rfl
  have nt : ∀ {b : Addr} {ps : Array Value}, H b = some (.tbl ps) → b ≠ a := fun {b ps} e z => by rw [z] at e; exact hta ps e
  exact r.mutateG h hs hv (fun b o hb ne _ => by rw [upd_ne ne]; exact hb) (fun b ps hb => ⟨ps, by rw [upd_ne (nt hb)]; exact hb⟩) (fun b _ ⟨ps, hb, t⟩ => ⟨ps, by rw [upd_ne (nt hb)]; exact hb, t⟩) ho
end
/-! ### objects that no value stands at -/
section
variable {K : PySem.W.Frag} {B : Bs} {ss : List Sl} {vs : List (Option V)} {H : Hp}
def Bs.put (B : Bs) (a : Addr) (o : HO) : Bs := ⟨B.H0, B.r0, B.tabs, B.Z, fun b => if b = a then some o else B.fx b⟩
theorem R.chg {B' : Bs} {H' : Hp} {a : Addr} (r : R K B ss vs H) (e0 : B'.H0 = B.H0) (e1 : B'.r0 = B.r0) (e2 : B'.tabs = B.tabs) (e3 : B'.Z = B.Z) (h0 : B.H0 a = none) (hk : ∀ b, b ≠ a → H' b = H b) (ha : ∀ o, H a = some o → Frn o) (hf : ∀ b o, B'.fx b = some o → H' b = some o ∧ Frn o) (ht : ∀ b ∈ B.tabs, b ≠ a) (hz : ∀ b, B.Z b → b ≠ a) : R K B' ss vs H' := by
  obtain ⟨H0', ra', tabs', Z', fx'⟩ := B'
  subst e0 e1 e2 e3
  have hs : Stay (Mt B.Z ss vs) H H' → True := fun _ => trivial
  have key : ∀ {v : V} {d : D}, Rp K (Mt B.Z ss vs) H v d → Rp K (Mt B.Z ss vs) H' v d := fun {v d} h => Rp.off hk ha h
  have keyA : ∀ {v : List V} {d : List D}, RpA K (Mt B.Z ss vs) H v d → RpA K (Mt B.Z ss vs) H' v d := fun {v d} h => RpA.off hk ha h
  have ow : ∀ {b : Addr} {d : D}, OwnAt K (Mt B.Z ss vs) H b d → OwnAt K (Mt B.Z ss vs) H' b d := fun {b d} h => by
    have ne : b ≠ a := fun e => by
      rw [e] at h
      cases d with
      | lst l => obtain ⟨xs, w1, _⟩ := h; exact ha _ w1
      | dct l => obtain ⟨xs, w1, _⟩ := h; exact ha _ w1
      | _ => exact h
    cases d with
    | lst l => obtain ⟨xs, w1, w2⟩ := h; exact ⟨xs, (hk b ne).trans w1, keyA w2⟩
    | dct l => obtain ⟨xs, w1, w2⟩ := h; exact ⟨xs, (hk b ne).trans w1, RpK.off hk ha w2⟩
    | _ => exact h
  refine ⟨r.len, fun j d e => ?_, fun j d e => ?_, fun j d e => ?_, r.pin, r.sep, ⟨fun b o hb n t => ?_, fun b ps hb => ?_⟩, fun b hb => ?_, fun b hb => ?_, r.sepZ, hf⟩
  · obtain ⟨v, h1, h2⟩ := r.val j d e
    exact ⟨v, h1, key h2⟩
  · obtain ⟨b, h1, h2, h3⟩ := r.own j d e
    exact ⟨b, h1, ow h2, h3⟩
  · obtain ⟨b, h1, h2, h3⟩ := r.ref j d e
    exact ⟨b, h1, h2, ow h3⟩
  · have ne : b ≠ a := fun e => by rw [e, h0] at hb; cases hb
    rw [hk b ne]; exact r.ext.stay b o hb n t
  · have ne : b ≠ a := fun e => by rw [e, h0] at hb; cases hb
    obtain ⟨ps', h⟩ := r.ext.tbl b ps hb
    exact ⟨ps', by rw [hk b ne]; exact h⟩
  · obtain ⟨ps, h, t⟩ := r.tab b hb
    exact ⟨ps, by rw [hk b (ht b hb)]; exact h, t⟩
  · obtain ⟨o, h, t⟩ := r.zed b hb
    exact ⟨o, by rw [hk b (hz b hb)]; exact h, t⟩
/-- a new one -/
theorem R.putNew (r : R K B ss vs H) {a : Addr} {o : HO} (ha : H a = none) (ho : Frn o) : R K (B.put a o) ss vs (upd H a o) := by
  refine r.chg (a := a) rfl rfl rfl rfl (r.new0 ha) (fun b ne => upd_ne ne) (fun o' h => by rw [ha] at h; cases h) (fun b o' h => ?_) (fun b hb e => ?_) (fun b hb e => ?_)
  · by_cases e : b = a
    · subst e
      have : some o = some o' := by simpa [Bs.put] using h
      cases this
      exact ⟨upd_same, ho⟩
    · have h : B.fx b = some o' := by simpa [Bs.put, e] using h
      obtain ⟨h1, h2⟩ := r.fix b o' h
      exact ⟨by rw [upd_ne e]; exact h1, h2⟩
  · obtain ⟨ps, h, _⟩ := r.tab b hb
    rw [e, ha] at h; cases h
  · obtain ⟨o', h, _⟩ := r.zed b hb
    rw [e, ha] at h; cases h
theorem R.fxOff (r : R K B ss vs H) {fx : Addr → Option HO} (h : ∀ b o, fx b = some o → B.fx b = some o) : R K ⟨B.H0, B.r0, B.tabs, B.Z, fx⟩ ss vs H :=
  ⟨r.len, r.val, r.own, r.ref, r.pin, r.sep, r.ext, r.tab, r.zed, r.sepZ, fun a o e => r.fix a o (h a o e)⟩
end
/-! ### what may be read: a value, or a container of one's own -/
inductive Ra (K : PySem.W.Frag) (M : Addr → Prop) (H : Hp) (v : V) (d : D) : Prop
  | rp : Rp K M H v d → Ra K M H v d
  | own {a : Addr} : v = .ref a → OwnAt K M H a d → Ra K M H v d
inductive RaA (K : PySem.W.Frag) (M : Addr → Prop) (H : Hp) : List V → List D → Prop
  | nil : RaA K M H [] []
  | cons {v : V} {vs : List V} {d : D} {ds : List D} : Ra K M H v d → RaA K M H vs ds → RaA K M H (v :: vs) (d :: ds)
section
variable {K : PySem.W.Frag} {M : Addr → Prop} {H : Hp} {v : V}
theorem Ra.intV {i : Int} (h : Ra K M H v (.int i)) : v = .int i := by cases h with | rp h => exact h.intV | own _ o => exact o.elim
theorem Ra.strV {l : List Nat} (h : Ra K M H v (.str l)) : v = .str (mkS l) := by cases h with | rp h => exact h.strV | own _ o => exact o.elim
theorem Ra.blV {b : Bool} (h : Ra K M H v (.bl b)) : v = .bl b := by cases h with | rp h => exact h.blV | own _ o => exact o.elim
theorem Ra.nonV (h : Ra K M H v .non) : v = .non := by cases h with | rp h => exact h.nonV | own _ o => exact o.elim
theorem Ra.lstV {ds : List D} (h : Ra K M H v (.lst ds)) : ∃ a xs, v = .ref a ∧ H a = some (.lst xs) ∧ True ∧ RpA K M H xs ds := by
  cases h with
  | rp h => obtain ⟨a, xs, h1, h2, _, h3⟩ := h.lstV; exact ⟨a, xs, h1, h2, trivial, h3⟩
  | own e o => obtain ⟨xs, h1, h2⟩ := o; exact ⟨_, xs, e, h1, trivial, h2⟩
theorem Ra.tupR {ds : List D} (h : Ra K M H v (.tup ds)) : Rp K M H v (.tup ds) := by cases h with | rp h => exact h | own _ o => exact o.elim
theorem Ra.scrV {ns : List Int} (h : Ra K M H v (.scr ns)) : ∃ a, v = .ref a ∧ SqL K H a (ns.map V.int) := by cases h with | rp h => exact h.scrV | own _ o => exact o.elim
theorem Ra.tupV {ds : List D} (h : Ra K M H v (.tup ds)) : ∃ a xs, v = .ref a ∧ SqT K H a xs ∧ RpA K M H xs ds := h.tupR.tupV
theorem Ra.flatR {d : D} (h : Ra K M H v d) (f : d.flat = true) : Rp K M H v d := by
  cases h with
  | rp h => exact h
  | own _ o => cases d <;> first | (simp [D.flat] at f; done) | exact o.elim
theorem RpA.ra : ∀ {vs : List V} {ds : List D}, RpA K M H vs ds → RaA K M H vs ds
  | _, _, .nil => .nil
  | _, _, .cons h t => .cons (.rp h) (RpA.ra t)
end
end Gw

set_option Elab.async false
set_option linter.all false
set_option maxRecDepth 100000
set_option maxHeartbeats 1000000
/-! The value layer, part 3: expressions. -/
namespace Gw
open PySem L2

theorem _root_.L2.PE.imp {X : Cx} {e : Expr} {t t' : TE} (h : PE X e t) (i : ∀ σ H Q, t' σ H Q → t σ H Q) : PE X e t' := ⟨fun pins s σ H Q I q => h.run pins s σ H Q I (i _ _ _ q)⟩
theorem _root_.L2.PT.imp {X : Cx} {e : Expr} {t t' : TT} (h : PT X e t) (i : ∀ σ H Q, t' σ H Q → t σ H Q) : PT X e t' := ⟨fun pins s σ H Q I q => h.run pins s σ H Q I (i _ _ _ q)⟩
theorem _root_.L2.PW.imp {X : Cx} {e : Expr} {t t' : TT} (h : PW X e t) (i : ∀ σ H Q, t' σ H Q → t σ H Q) : PW X e t' := ⟨fun w pins s σ H Q I q => h.run w pins s σ H Q I (i _ _ _ q)⟩
theorem _root_.L2.PA.imp {X : Cx} {e : List Expr} {t t' : TA} (h : PA X e t) (i : ∀ σ H Q, t' σ H Q → t σ H Q) : PA X e t' := ⟨fun p pins s σ H Q I q => h.run p pins s σ H Q I (i _ _ _ q)⟩
theorem _root_.L2.PS.imp {X : Cx} {e : Stmt} {t t' : TS} (h : PS X e t) (i : ∀ D σ H, t' D σ H → t D σ H) : PS X e t' := ⟨fun pins s σ H D I q => h.run pins s σ H D I (i _ _ _ q)⟩
theorem _root_.L2.PSs.imp {X : Cx} {e : List Stmt} {t t' : TS} (h : PSs X e t) (i : ∀ D σ H, t' D σ H → t D σ H) : PSs X e t' := ⟨fun pins s σ H D I q => h.run pins s σ H D I (i _ _ _ q)⟩
theorem _root_.L2.OpR.imp {X : Cx} {f : Value → Value → Sem Value} {r r' : R2} (h : OpR X f r) (i : ∀ x y H Q, r' x y H Q → r x y H Q) : OpR X f r' := fun pins s σ H x y v u Q I rx ry q => h pins s σ H x y v u Q I rx ry (i _ _ _ _ q)

theorem Rv.noref (r : Rv) (d : D) : r.sl ≠ .ref d := by cases r <;> (intro e; cases e)
section
variable {K : PySem.W.Frag} {B : Bs} {ss ts : List Sl} {vs ws : List (Option V)} {H H' : Hp}
theorem R.frzTop {r : Rv} {v : Option V} (h : R K B (ss ++ [r.sl]) (vs ++ [v]) H) : R K B (ss ++ [.val r.d]) (vs ++ [v]) H := by
  cases r with
  | val d => exact h
  | own d =>
    have q := h.freeze (i := ss.length) (d := d) (getEnd _ _)
    have e : (ss ++ [Sl.own d]).set ss.length (.val d) = ss ++ [.val d] := by simp
    rw [show ss ++ [(Rv.own d).sl] = ss ++ [Sl.own d] from rfl, e] at q
    exact q
/-- the last temp is taken: its value, the rest -/
theorem R.take1 {r : Rv} {v : V} (h : R K B (ss ++ [r.sl]) (vs ++ [some v]) H) : R K B ss vs H ∧ Rp K (Mt B.Z ss vs) H v r.d := by
  have h := h.frzTop
  have hl : ss.length = vs.length := by have := h.len; simp at this; exact this
  have r1 := h.pop (fun d e => by cases e)
  obtain ⟨u, h1, h2⟩ := h.val ss.length r.d (getEnd _ _)
  rw [hl, getEnd] at h1
  cases h1
  exact ⟨r1, rp_congr (fun a m => (mt_push_val hl).mpr m) h2⟩
theorem R.take2 {r t : Rv} {v w : V} (h : R K B (ss ++ [r.sl] ++ [t.sl]) (vs ++ [some v] ++ [some w]) H) : R K B ss vs H ∧ Rp K (Mt B.Z ss vs) H v r.d ∧ Rp K (Mt B.Z ss vs) H w t.d := by
  obtain ⟨h1, h2⟩ := h.take1
  have h1' := h1.frzTop
  have hl : ss.length = vs.length := by have := h1.len; simp at this; exact this
  obtain ⟨h3, h4⟩ := h1.take1
  exact ⟨h3, h4, rp_congr (fun a m => mt_left m) h2⟩
theorem R.takeAll : ∀ {rs : List Rv} {us : List V} {ss : List Sl} {vs : List (Option V)}, R K B (ss ++ rs.map Rv.sl) (vs ++ us.map some) H → ss.length = vs.length → R K B ss vs H ∧ RpA K (Mt B.Z ss vs) H us (rs.map Rv.d)
  | [], us, ss, vs, h, hl => by
    have : us = [] := by have := h.len; simp [hl] at this; exact this
    subst this
    simp at h
    exact ⟨h, .nil⟩
  | r :: rs, us, ss, vs, h, hl => by
    cases us with
    | nil => have := h.len; simp [hl] at this
    | cons u us =>
      have h' : R K B ((ss ++ [r.sl]) ++ rs.map Rv.sl) ((vs ++ [some u]) ++ us.map some) H := by simpa using h
      obtain ⟨h1, h2⟩ := R.takeAll h' (by simp [hl])
      obtain ⟨h3, h4⟩ := h1.take1
      exact ⟨h3, .cons h4 (h2.mono (fun a o h _ _ => h) fun a m => .inl (mt_left m))⟩
end

/-! ### readings -/
def tE (K : PySem.W.Frag) (B : Bs) (F : Env → Res (Rv × Env)) : TE := fun σ H Q => ∃ (ρ : Env) (ts : List Sl) (vs : List (Option V)) (r : Rv) (ρ' : Env),
  R K B (ρ ++ ts) (σ ++ vs) H ∧ ρ.length = σ.length ∧ F ρ = .ok (r, ρ') ∧ ∀ v H', R K B (ρ' ++ ts ++ [r.sl]) (σ ++ vs ++ [some v]) H' → Q v H'
def tTr (K : PySem.W.Frag) (B : Bs) (F : Env → Res (Rv × Env)) : TT := fun σ H Q => ∃ (ρ : Env) (ts : List Sl) (vs : List (Option V)) (r : Rv) (ρ' : Env) (b : Bool),
  R K B (ρ ++ ts) (σ ++ vs) H ∧ ρ.length = σ.length ∧ F ρ = .ok (r, ρ') ∧ dTruth r.d = some b ∧ ∀ H', R K B (ρ' ++ ts) (σ ++ vs) H' → Q b H'
def tAs (K : PySem.W.Frag) (B : Bs) (F : Env → Res (List Rv × Env)) : TA := fun σ H Q => ∃ (ρ : Env) (ts : List Sl) (vs : List (Option V)) (rs : List Rv) (ρ' : Env),
  R K B (ρ ++ ts) (σ ++ vs) H ∧ ρ.length = σ.length ∧ F ρ = .ok (rs, ρ') ∧ ∀ us H', us.length = rs.length → R K B (ρ' ++ ts ++ rs.map Rv.sl) (σ ++ vs ++ us.map some) H' → Q us H'
/-- an operation on two values -/
def opD (K : PySem.W.Frag) (g : D → D → Option Rv) : R2 := fun x y H Q => ∃ (B : Bs) (ss : List Sl) (vs : List (Option V)) (d e : D) (r : Rv),
  R K B ss vs H ∧ Ra K (Mt B.Z ss vs) H x d ∧ Ra K (Mt B.Z ss vs) H y e ∧ g d e = some r ∧ ∀ u H', R K B (ss ++ [r.sl]) (vs ++ [some u]) H' → Q u H'
def unD (K : PySem.W.Frag) (g : D → Option Rv) : V → Hp → VK → Prop := fun x H Q => ∃ (B : Bs) (ss : List Sl) (vs : List (Option V)) (d : D) (r : Rv),
  R K B ss vs H ∧ Ra K (Mt B.Z ss vs) H x d ∧ g d = some r ∧ ∀ u H', R K B (ss ++ [r.sl]) (vs ++ [some u]) H' → Q u H'
def arD (K : PySem.W.Frag) (g : List D → Option Rv) : List V → Hp → VK → Prop := fun xs H Q => ∃ (B : Bs) (ss : List Sl) (vs : List (Option V)) (ds : List D) (r : Rv),
  R K B ss vs H ∧ RaA K (Mt B.Z ss vs) H xs ds ∧ g ds = some r ∧ ∀ u H', R K B (ss ++ [r.sl]) (vs ++ [some u]) H' → Q u H'
theorem Res.bind_ok {α β : Type} {x : Res α} {f : α → Res β} {b : β} (h : Res.bind x f = .ok b) : ∃ a, x = .ok a ∧ f a = .ok b := by
  cases x with
  | ok a => exact ⟨a, rfl, h⟩
  | exc c p => cases h
  | stuck => cases h
theorem Res.of_ok {α : Type} {o : Option α} {a : α} (h : Res.of o = .ok a) : o = some a := by
  cases o with
  | none => cases h
  | some b => cases h; rfl
section
variable {K : PySem.W.Frag} {B : Bs} {σ : L2.St} {H : Hp}
theorem read2 {Fa Fb : Env → Res (Rv × Env)} {g : D → D → Option Rv} {Q : VK}
    (h : tE K B (fun ρ => (Fa ρ).bind fun p => (Fb p.2).bind fun q => (Res.of (g p.1.d q.1.d)).bind fun r => .ok (r, q.2)) σ H Q) :
    tOp (opD K g) (tE K B Fa) (tE K B Fb) σ H Q := by
  obtain ⟨ρ, ts, vs, r, ρ', hR, hl, hF, hQ⟩ := h
  obtain ⟨⟨ra, ρ1⟩, h1, hF⟩ := Res.bind_ok hF
  obtain ⟨⟨rb, ρ2⟩, h2, hF⟩ := Res.bind_ok hF
  obtain ⟨r', h3, hF⟩ := Res.bind_ok hF
  have h3 := Res.of_ok h3
  cases hF
  refine ⟨ρ, ts, vs, ra, ρ1, hR, hl, h1, fun x H1 R1 => ?_⟩
  have l1 : ρ1.length = σ.length := by have a := hR.len; have b := R1.len; simp at a b; omega
  refine ⟨ρ1, ts ++ [ra.sl], vs ++ [some x], rb, _, by simpa using R1, l1, h2, fun y H2 R2 => ?_⟩
  have R2' : R K B ((ρ2 ++ ts) ++ [ra.sl] ++ [rb.sl]) ((σ ++ vs) ++ [some x] ++ [some y]) H2 := by simpa using R2
  obtain ⟨q0, q1, q2⟩ := R2'.take2
  exact ⟨B, _, _, _, _, _, q0, .rp q1, .rp q2, h3, hQ⟩
theorem read1 {Fa : Env → Res (Rv × Env)} {g : D → Option Rv} {Q : VK} (h : tE K B (fun ρ => (Fa ρ).bind fun p => (Res.of (g p.1.d)).bind fun r => .ok (r, p.2)) σ H Q) :
    tUn (unD K g) (tE K B Fa) σ H Q := by
  obtain ⟨ρ, ts, vs, r, ρ', hR, hl, hF, hQ⟩ := h
  obtain ⟨⟨ra, ρ1⟩, h1, hF⟩ := Res.bind_ok hF
  obtain ⟨r', h3, hF⟩ := Res.bind_ok hF
  have h3 := Res.of_ok h3
  cases hF
  refine ⟨ρ, ts, vs, ra, _, hR, hl, h1, fun x H1 R1 => ?_⟩
  obtain ⟨q0, q1⟩ := R1.take1
  exact ⟨B, _, _, _, _, q0, .rp q1, h3, hQ⟩
theorem readA {Fs : Env → Res (List Rv × Env)} {g : List D → Option Rv} {Q : VK} (h : tE K B (fun ρ => (Fs ρ).bind fun p => (Res.of (g (p.1.map Rv.d))).bind fun r => .ok (r, p.2)) σ H Q) :
    tAs K B Fs σ H fun xs H1 => arD K g xs H1 Q := by
  obtain ⟨ρ, ts, vs, r, ρ', hR, hl, hF, hQ⟩ := h
  obtain ⟨⟨ra, ρ1⟩, h1, hF⟩ := Res.bind_ok hF
  obtain ⟨r', h3, hF⟩ := Res.bind_ok hF
  have h3 := Res.of_ok h3
  cases hF
  refine ⟨ρ, ts, vs, ra, _, hR, hl, h1, fun xs H1 hx R1 => ?_⟩
  have e : (ρ1 ++ ts).length = (σ ++ vs).length := by
    have a := hR.len; have b := R1.len
    simp at a b ⊢; omega
  obtain ⟨q0, q1⟩ := R1.takeAll e
  exact ⟨B, _, _, _, _, q0, q1.ra, h3, hQ⟩
end
end Gw

set_option Elab.async false
set_option linter.all false
set_option maxRecDepth 100000
set_option maxHeartbeats 1000000
/-! The value layer, part 4: operators and built-in functions on values. -/
namespace Gw
open PySem L2

theorem sIx_eq (n d : Nat) (o : Option Int) : HT.sIx n d o = sIx n d o := by
  cases o with
  | none => rfl
  | some v =>
    unfold HT.sIx sIx
    first
      | rfl
      | (split <;> split <;> omega)
theorem ixN_eq (n : Nat) (i : Int) : L2.ixN n i = ixN n i := rfl
theorem atI_eq {α : Type} (xs : List α) (i : Int) : L2.atI xs i = atI xs i := rfl
theorem lineOk_iff {n : Nat} (h : lineOk n = true) : n ≤ sizeLine := by
  rw [sizeLine_eq]; exact of_decide_eq_true h
section
variable {X : Cx} {K : PySem.W.Frag} {M : Addr → Prop} {H : Hp}
theorem RpA.cut {vs : List V} {ds : List D} (h : RpA K M H vs ds) (lo hi : Option Int) : RpA K M H (cutV vs lo hi) (cut ds lo hi) := by
  unfold cutV Gw.cut
  rw [sIx_eq, sIx_eq, h.len]
  exact (h.drop _).take _
theorem RpA.atI {vs : List V} {ds : List D} {i : Int} {d : D} (h : RpA K M H vs ds) (e : Gw.atI ds i = some d) : ∃ v, L2.atI vs i = some v ∧ Rp K M H v d := by
  rw [atI_eq]
  unfold Gw.atI at e ⊢
  rw [h.len]
  cases q : ixN ds.length i with
  | none => rw [q] at e; cases e
  | some j =>
    rw [q] at e
    exact h.get e

/-! closing -/
theorem fin_val {B : Bs} {ss : List Sl} {vs : List (Option V)} {Q : VK} {v : V} {d : D} (hR : R K B ss vs H) (hv : Rp K (Mt B.Z ss vs) H v d) (hQ : ∀ u H', R K B (ss ++ [(Rv.val d).sl]) (vs ++ [some u]) H' → Q u H') : Q v H := hQ v H (hR.push_val hv)
theorem fin_lst {B : Bs} {ss : List Sl} {vs : List (Option V)} {Q : VK} {xs : List V} {ds : List D} (hR : R K B ss vs H) (hv : RpA K (Mt B.Z ss vs) H xs ds) (hQ : ∀ u H', R K B (ss ++ [(Rv.own (.lst ds)).sl]) (vs ++ [some u]) H' → Q u H') :
    ∀ p, H p = none → Q (.ref p) (upd H p (.lst xs)) := fun p hp =>
  hQ _ _ (hR.push_own hp (Grow.new hp) ⟨xs, upd_same, hv⟩)
theorem fin_tup {B : Bs} {ss : List Sl} {vs : List (Option V)} {Q : VK} {xs : List V} {ds : List D} (hR : R K B ss vs H) (hv : RpA K (Mt B.Z ss vs) H xs ds) (hQ : ∀ u H', R K B (ss ++ [(Rv.val (.tup ds)).sl]) (vs ++ [some u]) H' → Q u H') :
    ∀ p, H p = none → Q (.ref p) (upd H p (.tup xs)) := fun p hp => by
  have np : ¬ Mt B.Z ss vs p := fun m => by
    obtain ⟨o, e, _⟩ := hR.mt_some m
    rw [hp] at e; cases e
  have g : Grow B.tabs H (upd H p (.tup xs)) := Grow.new hp
  refine hQ _ _ ((hR.grow g).push_val (.tup (.inl ⟨upd_same, np⟩) ?_))
  exact hv.mono (fun a o h _ n => g.stay a o h n) fun a m => .inl m

/-! ### + - * // % ** -/
theorem opd_add : OpR X (binaryOp .Add) (opD X.K (dBin .add)) := by
  intro pins s σ H x y v u Q I rx ry ⟨B, ss, vs, d, e, r, hR, hx, hy, hg, hQ⟩
  cases d with
  | int a =>
    cases e with
    | int b =>
      cases hg
      rw [hx.intV] at rx; rw [hy.intV] at ry
      exact op_add pins s σ H _ _ v u Q I rx ry ⟨a, b, rfl, rfl, fin_val hR (.int _) hQ⟩
    | _ => cases hg
  | str a =>
    cases e with
    | str b =>
      by_cases hz : lineOk (a.length + b.length) = true
      · simp only [dBin, hz, if_true] at hg
        cases hg
        rw [hx.strV] at rx; rw [hy.strV] at ry
        refine op_add_str pins s σ H _ _ v u Q I rx ry ⟨mkS a, mkS b, rfl, rfl, by rw [mkS_len, mkS_len]; exact lineOk_iff hz, ?_⟩
        have e1 : mkS a ++ mkS b = mkS (a ++ b) := by
          show (⟨a.toArray ++ b.toArray⟩ : Str) = ⟨(a ++ b).toArray⟩
          simp
        rw [e1]
        exact fin_val hR (.str _) hQ
      · simp only [dBin, hz] at hg; cases hg
    | _ => cases hg
  | lst a =>
    cases e with
    | lst b =>
      by_cases hz : lineOk (a.length + b.length) = true
      · simp only [dBin, hz, if_true] at hg
        cases hg
        obtain ⟨p, xs, e1, g1, g2, g3⟩ := hx.lstV
        obtain ⟨q, ys, e2, g4, g5, g6⟩ := hy.lstV
        subst e1 e2
        refine op_cat pins s σ H _ _ v u Q I rx ry ⟨p, q, xs, ys, rfl, rfl, g1, g4, by rw [g3.len, g6.len]; exact lineOk_iff hz, ?_⟩
        exact fin_lst hR (g3.append g6) hQ
      · simp only [dBin, hz] at hg; cases hg
    | _ => cases hg
  | tup a =>
    cases e with
    | tup b =>
      by_cases hz : lineOk (a.length + b.length) = true
      · simp only [dBin, hz, if_true] at hg
        cases hg
        obtain ⟨p, xs, e1, g1, g3⟩ := hx.tupV
        obtain ⟨q, ys, e2, g4, g6⟩ := hy.tupV
        subst e1 e2
        refine op_catA pins s σ H _ _ v u Q I rx ry ⟨p, q, xs, ys, rfl, rfl, g1, g4, by rw [g3.len, g6.len]; exact lineOk_iff hz, fun z => ?_, fun _ z => ?_, fun _ _ => fin_tup hR (g3.append g6) hQ⟩
        · have : a = [] := List.eq_nil_of_length_eq_zero (by rw [← g3.len, z]; rfl)
          subst this
          exact fin_val hR hy.tupR hQ
        · have : b = [] := List.eq_nil_of_length_eq_zero (by rw [← g6.len, z]; rfl)
          subst this
          rw [List.append_nil] at hQ
          exact fin_val hR hx.tupR hQ
      · simp only [dBin, hz] at hg; cases hg
    | _ => cases hg
  | _ => cases hg
theorem opd_sub : OpR X (binaryOp .Sub) (opD X.K (dBin .sub)) := by
  intro pins s σ H x y v u Q I rx ry ⟨B, ss, vs, d, e, r, hR, hx, hy, hg, hQ⟩
  cases d with
  | int a =>
    cases e with
    | int b =>
      cases hg
      rw [hx.intV] at rx; rw [hy.intV] at ry
      exact op_sub pins s σ H _ _ v u Q I rx ry ⟨a, b, rfl, rfl, fin_val hR (.int _) hQ⟩
    | _ => cases hg
  | _ => cases hg
theorem small64_iff {i : Int} (h : small64 i = true) : -(2 ^ 64) < i ∧ i < 2 ^ 64 := by
  unfold small64 at h
  rw [Bool.and_eq_true] at h
  exact ⟨of_decide_eq_true h.1, of_decide_eq_true h.2⟩
theorem flatten_arr (l : List Nat) : ∀ (n : Nat) (acc : List Nat), (List.replicate n l.toArray).foldl (· ++ ·) acc.toArray = (acc ++ (List.replicate n l).flatten).toArray
  | 0, acc => by simp
  | n + 1, acc => by
    rw [List.replicate_succ, List.replicate_succ, List.foldl_cons, List.flatten_cons]
    rw [show acc.toArray ++ l.toArray = (acc ++ l).toArray by simp, flatten_arr l n (acc ++ l)]
    simp
theorem txt_mul (l : List Nat) (n : Int) : Txt.mul (mkS l) n = mkS (List.replicate n.toNat l).flatten := by
  unfold Txt.mul
  by_cases h1 : n < 1
  · rw [if_pos h1, show n.toNat = 0 by omega]; rfl
  · rw [if_neg h1]
    by_cases h2 : (n == 1 || (mkS l).length == 0) = true
    · rw [if_pos h2]
      rw [Bool.or_eq_true] at h2
      rcases h2 with h2 | h2
      · have : n = 1 := by simpa using h2
        subst this
        simp [List.replicate]
      · have : l = [] := by
          rw [mkS_len] at h2
          simpa using h2
        subst this
        simp
    · rw [if_neg h2]
      have := flatten_arr l n.toNat []
      simp only [List.nil_append] at this
      show (⟨_⟩ : Str) = ⟨_⟩
      rw [← this]
      rfl
theorem mulOk_line {l : List Nat} {n : Int} (h : lineOk (l.length * n.toNat) = true) (h1 : n < 1000000) (h2 : -1000000 < n) : MulOk (mkS l) n := by
  refine ⟨?_, fun h3 h4 => ?_, fun h3 h4 => ?_⟩
  · have a : ¬ n < -(2 ^ 63 : Int) := by omega
    have b : ¬ n ≥ 2 ^ 63 := by omega
    rw [decide_eq_false a, decide_eq_false b]; rfl
  · rw [mkS_len]
    have hz : l.length * n.toNat ≤ 16777216 := of_decide_eq_true h
    have hl : l.length ≤ 16777216 := by
      have : l.length * 1 ≤ l.length * n.toNat := Nat.mul_le_mul_left _ (by omega)
      omega
    have h5 : (9223372036854 : Int) ≤ (2 ^ 63 - 1) / n := by
      rw [Int.le_ediv_iff_mul_le (by omega)]
      have : (9223372036854 : Int) * n ≤ 9223372036854 * 1000000 := Int.mul_le_mul_of_nonneg_left (by omega) (by decide)
      omega
    omega
  · rw [mkS_len]
    have hz : l.length * n.toNat ≤ 16777216 := of_decide_eq_true h
    unfold Builtin.Str.tooLong
    rw [decide_eq_false]
    rw [sizeLine_eq]; omega
theorem opd_mul : OpR X (binaryOp .Mult) (opD X.K (dBin .mul)) := by
  intro pins s σ H x y v u Q I rx ry ⟨B, ss, vs, d, e, r, hR, hx, hy, hg, hQ⟩
  cases d with
  | int a =>
    cases e with
    | int b =>
      by_cases hz : (small64 a || small64 b) = true
      · simp only [dBin, hz, if_true] at hg
        cases hg
        rw [hx.intV] at rx; rw [hy.intV] at ry
        refine op_mul pins s σ H _ _ v u Q I rx ry ⟨a, b, rfl, rfl, ?_, fin_val hR (.int _) hQ⟩
        rw [Bool.or_eq_true] at hz
        exact hz.imp small64_iff small64_iff
      · simp only [dBin, hz] at hg; cases hg
    | _ => cases hg
  | str a =>
    cases e with
    | int b =>
      by_cases hz : (lineOk (a.length * b.toNat) && decide (b < 1000000) && decide (-1000000 < b)) = true
      · simp only [dBin, hz, if_true] at hg
        cases hg
        simp only [Bool.and_eq_true, decide_eq_true_eq] at hz
        rw [hx.strV] at rx; rw [hy.intV] at ry
        obtain ⟨t1, rfl⟩ := rx
        obtain ⟨t2, rfl⟩ := ry
        refine SB.mul (mulOk_line hz.1.1 hz.1.2 hz.2) fun t' k => ?_
        rw [txt_mul]
        exact ⟨.str _, H, I.tok _, ⟨_, rfl⟩, fin_val hR (.str _) hQ⟩
      · simp only [dBin, hz] at hg; cases hg
    | _ => cases hg
  | lst a =>
    cases e with
    | int b =>
      by_cases hz : (lineOk (a.length * b.toNat) && decide (b < 1000000) && decide (-1000000 < b)) = true
      · simp only [dBin, hz, if_true] at hg
        cases hg
        simp only [Bool.and_eq_true, decide_eq_true_eq] at hz
        obtain ⟨p, xs, e1, g1, g2, g3⟩ := hx.lstV
        subst e1
        rw [hy.intV] at ry
        refine op_rep pins s σ H _ _ v u Q I rx ry ⟨p, b, xs, rfl, rfl, g1, by omega, by omega, by rw [g3.len]; exact lineOk_iff hz.1.1, ?_⟩
        exact fin_lst hR (g3.rep _) hQ
      · simp only [dBin, hz] at hg; cases hg
    | _ => cases hg
  | _ => cases hg
theorem opd_fdiv : OpR X (binaryOp .FloorDiv) (opD X.K (dBin .fdiv)) := by
  intro pins s σ H x y v u Q I rx ry ⟨B, ss, vs, d, e, r, hR, hx, hy, hg, hQ⟩
  cases d with
  | int a =>
    cases e with
    | int b =>
      by_cases hz : (decide (0 < b) && decide (b < 1073741824)) = true
      · simp only [dBin, hz, if_true] at hg
        cases hg
        simp only [Bool.and_eq_true, decide_eq_true_eq] at hz
        rw [hx.intV] at rx; rw [hy.intV] at ry
        exact op_fdiv pins s σ H _ _ v u Q I rx ry ⟨a, b, rfl, rfl, hz, fin_val hR (.int _) hQ⟩
      · simp only [dBin, hz] at hg; cases hg
    | _ => cases hg
  | _ => cases hg
theorem opd_mod : OpR X (binaryOp .Mod) (opD X.K (dBin .mod)) := by
  intro pins s σ H x y v u Q I rx ry ⟨B, ss, vs, d, e, r, hR, hx, hy, hg, hQ⟩
  cases d with
  | int a =>
    cases e with
    | int b =>
      by_cases hz : decide (0 < b) = true
      · simp only [dBin, hz, if_true] at hg
        cases hg
        rw [hx.intV] at rx; rw [hy.intV] at ry
        exact op_mod pins s σ H _ _ v u Q I rx ry ⟨a, b, rfl, rfl, of_decide_eq_true hz, fin_val hR (.int _) hQ⟩
      · simp only [dBin, hz] at hg; cases hg
    | _ => cases hg
  | _ => cases hg
theorem opd_pow : OpR X (binaryOp .Pow) (opD X.K (dBin .pow)) := by
  intro pins s σ H x y v u Q I rx ry ⟨B, ss, vs, d, e, r, hR, hx, hy, hg, hQ⟩
  cases d with
  | int a =>
    cases e with
    | int b =>
      by_cases hz : (decide (0 ≤ b) && decide (b ≤ 1000000) && small64 a) = true
      · simp only [dBin, hz, if_true] at hg
        cases hg
        simp only [Bool.and_eq_true, decide_eq_true_eq] at hz
        rw [hx.intV] at rx; rw [hy.intV] at ry
        have := small64_iff hz.2
        exact op_pow pins s σ H _ _ v u Q I rx ry ⟨a, b, rfl, rfl, ⟨hz.1.1, hz.1.2, by omega⟩, fin_val hR (.int _) hQ⟩
      · simp only [dBin, hz] at hg; cases hg
    | _ => cases hg
  | _ => cases hg
def bopP : Bop → Operator
  | .add => .Add | .sub => .Sub | .mul => .Mult | .fdiv => .FloorDiv | .mod => .Mod | .pow => .Pow
theorem opd_bin : ∀ op : Bop, OpR X (binaryOp (bopP op)) (opD X.K (dBin op))
  | .add => opd_add | .sub => opd_sub | .mul => opd_mul | .fdiv => opd_fdiv | .mod => opd_mod | .pow => opd_pow
theorem und_neg : UnR X (unaryOp .USub) (unD X.K dNeg) := by
  intro pins s σ H x v Q I rx ⟨B, ss, vs, d, r, hR, hx, hg, hQ⟩
  cases d with
  | int a =>
    cases hg
    rw [hx.intV] at rx
    exact un_neg pins s σ H _ v Q I rx ⟨a, rfl, fin_val hR (.int _) hQ⟩
  | _ => cases hg
end
end Gw

set_option Elab.async false
set_option linter.all false
set_option maxRecDepth 100000
set_option maxHeartbeats 1000000
/-! The value layer, part 5: comparisons, truth, places. -/
namespace Gw
open PySem L2

mutual
def toP : D → PyData
  | .non => .none
  | .bl b => .bool b
  | .int i => .int i
  | .str l => .str (mkS l)
  | .lst ds => .list (toPs ds)
  | .tup ds => .tuple (toPs ds)
  | .dct _ => .dict []
  | .scr _ => .dict []
  | .adr _ => .dict []
def toPs : List D → List PyData
  | [] => []
  | d :: ds => toP d :: toPs ds
end
section
variable {X : Cx} {K : PySem.W.Frag} {M : Addr → Prop} {H : Hp}
mutual
theorem Rp.dp : ∀ {d : D} {v : V}, d.nodct = true → Rp K M H v d → Dp K H v (toP d)
  | .non, _, _, h => by cases h; exact .non
  | .bl b, _, _, h => by cases h; exact .bl b
  | .int i, _, _, h => by cases h; exact .int i
  | .str l, _, _, h => by cases h; exact .str _
  | .lst ds, _, p, h => by
    obtain ⟨a, xs, rfl, g1, _, g3⟩ := h.lstV
    exact .lst (.inl (.inl g1)) (RpA.dp (by simpa [D.nodct] using p) g3)
  | .tup ds, _, p, h => by
    obtain ⟨a, xs, rfl, g1, g3⟩ := h.tupV
    exact .tup g1 (RpA.dp (by simpa [D.nodct] using p) g3)
  | .dct _, _, p, _ => by simp [D.nodct] at p
  | .scr _, _, p, _ => by simp [D.nodct] at p
  | .adr _, _, p, _ => by simp [D.nodct] at p
theorem RpA.dp : ∀ {ds : List D} {vs : List V}, D.nodcts ds = true → RpA K M H vs ds → DpAll K H vs (toPs ds)
  | [], _, _, h => by cases h; exact .nil
  | d :: ds, _, p, h => by
    cases h with
    | cons h1 h2 =>
      simp only [D.nodcts, Bool.and_eq_true] at p
      exact .cons (Rp.dp p.1 h1) (RpA.dp p.2 h2)
end
mutual
theorem nodct_plain : ∀ d : D, d.plain = true → d.nodct = true
  | .non, _ => rfl
  | .bl _, _ => rfl
  | .int _, _ => rfl
  | .str _, _ => rfl
  | .lst ds, h => by
    simp only [D.plain] at h
    simp only [D.nodct]
    exact nodcts_plain ds h
  | .tup ds, h => by
    simp only [D.plain] at h
    simp only [D.nodct]
    exact nodcts_plain ds h
  | .dct _, h => by simp [D.plain] at h
  | .scr _, h => by simp [D.plain] at h
  | .adr _, h => by simp [D.plain] at h
theorem nodcts_plain : ∀ d : List D, D.plains d = true → D.nodcts d = true
  | [], _ => rfl
  | d :: ds, h => by
    simp only [D.plains, Bool.and_eq_true] at h
    simp only [D.nodcts, Bool.and_eq_true]
    exact ⟨nodct_plain d h.1, nodcts_plain ds h.2⟩
end
theorem Ra.dp {d : D} {v : V} (hd : d.nodct = true) (h : Ra K M H v d) : Dp K H v (toP d) := by
  cases h with
  | rp h => exact h.dp hd
  | own e o =>
    cases d with
    | lst ds =>
      obtain ⟨xs, h1, h2⟩ := o
      subst e
      exact .lst (.inl (.inl h1)) (RpA.dp (by simpa [D.nodct] using hd) h2)
    | dct _ => simp [D.nodct] at hd
    | scr _ => simp [D.nodct] at hd
    | adr _ => simp [D.nodct] at hd
    | _ => exact o.elim
theorem mkS_inj {a b : List Nat} : mkS a = mkS b ↔ a = b := ⟨fun h => by
  have := congrArg (fun z : Str => z.cps.toList) h
  exact this, fun h => by rw [h]⟩
theorem mkS_beq (a b : List Nat) : (mkS a == mkS b) = (a == b) := by
  by_cases h : a = b
  · subst h; simp
  · have h2 : mkS a ≠ mkS b := fun e => h (mkS_inj.mp e)
    rw [beq_eq_false_iff_ne.mpr h, beq_eq_false_iff_ne.mpr h2]
mutual
theorem eqv_toP : ∀ (d e : D), d.plain = true → e.plain = true → PyData.eqv (toP d) (toP e) = D.eqb d e
  | .non, e, _, p => by cases e <;> first | rfl | (simp [D.plain] at p; done) | simp [toP, PyData.eqv, D.eqb]
  | .bl b, e, _, p => by cases e <;> first | rfl | (simp [D.plain] at p; done) | simp [toP, PyData.eqv, D.eqb]
  | .int b, e, _, p => by cases e <;> first | rfl | (simp [D.plain] at p; done) | simp [toP, PyData.eqv, D.eqb]
  | .str b, e, _, p => by
    cases e with
    | str c => simp only [toP, PyData.eqv, D.eqb]; exact mkS_beq b c
    | dct _ => simp [D.plain] at p
    | scr _ => simp [D.plain] at p
    | adr _ => simp [D.plain] at p
    | _ => simp [toP, PyData.eqv, D.eqb]
  | .lst b, e, q, p => by
    cases e with
    | lst c =>
      simp only [toP, PyData.eqv, D.eqb]
      exact eqv_toPs b c (by simpa [D.plain] using q) (by simpa [D.plain] using p)
    | dct _ => simp [D.plain] at p
    | scr _ => simp [D.plain] at p
    | adr _ => simp [D.plain] at p
    | _ => simp [toP, PyData.eqv, D.eqb]
  | .tup b, e, q, p => by
    cases e with
    | tup c =>
      simp only [toP, PyData.eqv, D.eqb]
      exact eqv_toPs b c (by simpa [D.plain] using q) (by simpa [D.plain] using p)
    | dct _ => simp [D.plain] at p
    | scr _ => simp [D.plain] at p
    | adr _ => simp [D.plain] at p
    | _ => simp [toP, PyData.eqv, D.eqb]
  | .dct _, _, q, _ => by simp [D.plain] at q
  | .scr _, _, q, _ => by simp [D.plain] at q
  | .adr _, _, q, _ => by simp [D.plain] at q
theorem eqv_toPs : ∀ (d e : List D), D.plains d = true → D.plains e = true → PyData.eqvAll (toPs d) (toPs e) = D.eqbs d e
  | [], [], _, _ => by simp [toPs, PyData.eqvAll, D.eqbs]
  | [], _ :: _, _, _ => by simp [toPs, PyData.eqvAll, D.eqbs]
  | _ :: _, [], _, _ => by simp [toPs, PyData.eqvAll, D.eqbs]
  | d :: ds, e :: es, p, q => by
    simp only [D.plains, Bool.and_eq_true] at p q
    simp only [toPs, PyData.eqvAll, D.eqbs]
    rw [eqv_toP d e p.1 q.1, eqv_toPs ds es p.2 q.2]
end
mutual
theorem lay_toP : ∀ d : D, d.plain = true → (toP d).canLay0 = true ∧ (toP d).depth = d.depth
  | .non, _ => ⟨rfl, rfl⟩
  | .bl _, _ => ⟨rfl, rfl⟩
  | .int _, _ => ⟨rfl, rfl⟩
  | .str l, p => by
    refine ⟨?_, rfl⟩
    simp only [toP, PyData.canLay0, PyData.strOk]
    simp only [D.plain] at p
    rw [show (mkS l).cps = l.toArray from rfl, List.all_toArray]
    simpa using p
  | .lst ds, p => by
    have h := lay_toPs ds (by simpa [D.plain] using p)
    simp only [toP, PyData.canLay0, PyData.depth, D.depth]
    exact ⟨h.1, by rw [h.2]⟩
  | .tup ds, p => by
    have h := lay_toPs ds (by simpa [D.plain] using p)
    simp only [toP, PyData.canLay0, PyData.depth, D.depth]
    exact ⟨h.1, by rw [h.2]⟩
  | .dct _, p => by simp [D.plain] at p
  | .scr _, p => by simp [D.plain] at p
  | .adr _, p => by simp [D.plain] at p
theorem lay_toPs : ∀ d : List D, D.plains d = true → PyData.canLayAll0 (toPs d) = true ∧ PyData.depthAll (toPs d) = D.depths d
  | [], _ => ⟨rfl, rfl⟩
  | d :: ds, p => by
    simp only [D.plains, Bool.and_eq_true] at p
    have h1 := lay_toP d p.1
    have h2 := lay_toPs ds p.2
    simp only [toPs, PyData.canLayAll0, PyData.depthAll, D.depths]
    exact ⟨by rw [h1.1, h2.1]; rfl, by rw [h1.2, h2.2]⟩
end
theorem shaped_toP {d : D} (h : d.shaped = true) : SeqAt.shaped (toP d) = true := by
  unfold D.shaped at h
  rw [Bool.and_eq_true] at h
  have q := lay_toP d h.1
  unfold SeqAt.shaped
  rw [q.1, q.2, h.2]; rfl
theorem plain_of_shaped {d : D} (h : d.shaped = true) : d.plain = true := by
  unfold D.shaped at h
  rw [Bool.and_eq_true] at h
  exact h.1

/-! ### == and != -/
theorem scal_flat {d e : D} (h : D.scal d e = true) : d.flat = true ∧ e.flat = true := by
  cases d <;> cases e <;> first | exact ⟨rfl, rfl⟩ | (simp [D.scal, D.flat] at h)
theorem scal_of {d e : D} {x y : V} (h : D.scal d e = true) (hx : Ra K M H x d) (hy : Ra K M H y e) : L2.scal x y = true ∧ decide (x = y) = D.eqb d e := by
  have hx := hx.flatR (scal_flat h).1
  have hy := hy.flatR (scal_flat h).2
  cases d <;> cases e <;> first | (simp [D.scal, D.flat] at h; done) | skip
  all_goals
    cases hx
    cases hy
    refine ⟨rfl, ?_⟩
    simp only [D.eqb]
    first
      | rfl
      | (rw [dec_int])
      | (rw [dec_bl])
      | (rw [dec_str]; exact mkS_beq _ _)
      | (simp)
def cb (o : Option Bool) : Option Rv := o.map fun b => .val (.bl b)
theorem cb_some {o : Option Bool} {r : Rv} (h : cb o = some r) : ∃ b, o = some b ∧ r = .val (.bl b) := by
  cases o with
  | none => cases h
  | some b => exact ⟨b, rfl, by cases h; rfl⟩
theorem dEqO_cases {a b : D} {k : Bool} (h : dEqO a b = some k) : k = D.eqb a b ∧ (D.scal a b = true ∨ (a.shaped = true ∧ b.shaped = true)) := by
  unfold dEqO at h
  by_cases h1 : D.scal a b = true
  · rw [if_pos h1] at h
    exact ⟨(Option.some.inj h).symm, .inl h1⟩
  · rw [if_neg h1] at h
    by_cases h2 : (a.shaped && b.shaped) = true
    · rw [if_pos h2] at h
      rw [Bool.and_eq_true] at h2
      exact ⟨(Option.some.inj h).symm, .inr h2⟩
    · rw [if_neg h2] at h; cases h
theorem opd_eq (hu : X.A.units + 64 < cLine) : OpR X (compareOp .Eq) (opD X.K fun a b => cb (dCmp .eq a b)) := by
  intro pins s σ H x y v u Q I rx ry ⟨B, ss, vs, d, e, r, hR, hx, hy, hg, hQ⟩
  obtain ⟨k, hk, rfl⟩ := cb_some hg
  obtain ⟨rfl, h⟩ := dEqO_cases (show dEqO d e = some k from hk)
  rcases h with h | ⟨h1, h2⟩
  · obtain ⟨g1, g2⟩ := scal_of h hx hy
    refine op_eq pins s σ H _ _ v u Q I rx ry ⟨g1, ?_⟩
    rw [g2]
    exact fin_val hR (.bl _) hQ
  · refine op_eqD hu pins s σ H _ _ v u Q I rx ry ⟨_, _, hx.dp (nodct_plain _ (plain_of_shaped h1)), hy.dp (nodct_plain _ (plain_of_shaped h2)), shaped_toP h1, shaped_toP h2, ?_⟩
    rw [eqv_toP d e (plain_of_shaped h1) (plain_of_shaped h2)]
    exact fin_val hR (.bl _) hQ
theorem opd_ne (hu : X.A.units + 64 < cLine) : OpR X (compareOp .NotEq) (opD X.K fun a b => cb (dCmp .ne a b)) := by
  intro pins s σ H x y v u Q I rx ry ⟨B, ss, vs, d, e, r, hR, hx, hy, hg, hQ⟩
  obtain ⟨k, hk, rfl⟩ := cb_some hg
  obtain ⟨k', hk', rfl⟩ : ∃ k', dEqO d e = some k' ∧ k = !k' := by
    have hk : (dEqO d e).map (!·) = some k := hk
    cases q : dEqO d e with
    | none => rw [q] at hk; cases hk
    | some k' => rw [q] at hk; exact ⟨k', rfl, (Option.some.inj hk).symm⟩
  obtain ⟨rfl, h⟩ := dEqO_cases hk'
  rcases h with h | ⟨h1, h2⟩
  · obtain ⟨g1, g2⟩ := scal_of h hx hy
    refine op_ne pins s σ H _ _ v u Q I rx ry ⟨g1, ?_⟩
    rw [g2]
    exact fin_val hR (.bl _) hQ
  · refine op_neD hu pins s σ H _ _ v u Q I rx ry ⟨_, _, hx.dp (nodct_plain _ (plain_of_shaped h1)), hy.dp (nodct_plain _ (plain_of_shaped h2)), shaped_toP h1, shaped_toP h2, ?_⟩
    rw [eqv_toP d e (plain_of_shaped h1) (plain_of_shaped h2)]
    exact fin_val hR (.bl _) hQ

/-! ### < <= > >= -/
theorem ltL_iff : ∀ a b : List Nat, ltL a b = decide (a < b)
  | a, [] => by
    have h : ¬ a < ([] : List Nat) := fun h => by cases h
    rw [decide_eq_false h]; cases a <;> rfl
  | [], b :: bs => by
    have h : ([] : List Nat) < b :: bs := List.Lex.nil
    rw [decide_eq_true h]; rfl
  | a :: as, b :: bs => by
    have ih := ltL_iff as bs
    unfold ltL
    by_cases h1 : a < b
    · have h : (a :: as) < b :: bs := List.Lex.rel h1
      rw [if_pos h1, decide_eq_true h]
    · rw [if_neg h1]
      by_cases h2 : a = b
      · subst h2
        rw [if_pos rfl, ih]
        by_cases h3 : as < bs
        · have h : (a :: as) < a :: bs := List.Lex.cons h3
          rw [decide_eq_true h3, decide_eq_true h]
        · have h4 : ¬ (a :: as) < a :: bs := fun h => by
            cases h with
            | cons h => exact h3 h
            | rel h => exact h1 h
          rw [decide_eq_false h3, decide_eq_false h4]
      · rw [if_neg h2]
        have h4 : ¬ (a :: as) < b :: bs := fun h => by
          cases h with
          | cons h => exact h2 rfl
          | rel h => exact h1 h
        rw [decide_eq_false h4]
mutual
theorem alike_toP : ∀ d e : D, D.alike d e = true → PySem.W.alike (toP d) (toP e) = true
  | .non, e, h => by cases e <;> first | (simp [toP, PySem.W.alike]; done) | (simp [D.alike] at h; done)
  | .bl _, e, h => by cases e <;> first | (simp [toP, PySem.W.alike]; done) | (simp [D.alike] at h; done)
  | .int _, e, h => by cases e <;> first | (simp [toP, PySem.W.alike]; done) | (simp [D.alike] at h; done)
  | .str _, e, h => by cases e <;> first | (simp [toP, PySem.W.alike]; done) | (simp [D.alike] at h; done)
  | .lst a, e, h => by
    cases e with
    | lst b =>
      simp only [D.alike] at h
      simp only [toP, PySem.W.alike]
      exact alikes_toP a b h
    | _ => simp [D.alike] at h
  | .tup a, e, h => by
    cases e with
    | tup b =>
      simp only [D.alike] at h
      simp only [toP, PySem.W.alike]
      exact alikes_toP a b h
    | _ => simp [D.alike] at h
  | .dct _, e, h => by cases e <;> simp [D.alike] at h
  | .scr _, e, h => by cases e <;> simp [D.alike] at h
  | .adr _, e, h => by cases e <;> simp [D.alike] at h
theorem alikes_toP : ∀ d e : List D, D.alikes d e = true → PySem.W.alikeAll (toPs d) (toPs e) = true
  | [], e, _ => by simp [toPs, PySem.W.alikeAll]
  | _ :: _, [], _ => by simp [toPs, PySem.W.alikeAll]
  | d :: ds, e :: es, h => by
    simp only [D.alikes, Bool.and_eq_true] at h
    simp only [toPs, PySem.W.alikeAll, Bool.and_eq_true]
    exact ⟨alike_toP d e h.1, alikes_toP ds es h.2⟩
end
mutual
theorem eqv_alike : ∀ d e : D, D.alike d e = true → PyData.eqv (toP d) (toP e) = D.eqb d e
  | .non, e, h => by cases e <;> first | (simp [toP, PyData.eqv, D.eqb]; done) | (simp [D.alike] at h; done)
  | .bl _, e, h => by cases e <;> first | (simp [toP, PyData.eqv, D.eqb]; done) | (simp [D.alike] at h; done)
  | .int _, e, h => by cases e <;> first | (simp [toP, PyData.eqv, D.eqb]; done) | (simp [D.alike] at h; done)
  | .str a, e, h => by
    cases e with
    | str b => simp only [toP, PyData.eqv, D.eqb]; exact mkS_beq a b
    | _ => simp [D.alike] at h
  | .lst a, e, h => by
    cases e with
    | lst b =>
      simp only [D.alike] at h
      simp only [toP, PyData.eqv, D.eqb]
      exact eqvs_alike a b h
    | _ => simp [D.alike] at h
  | .tup a, e, h => by
    cases e with
    | tup b =>
      simp only [D.alike] at h
      simp only [toP, PyData.eqv, D.eqb]
      exact eqvs_alike a b h
    | _ => simp [D.alike] at h
  | .dct _, e, h => by cases e <;> simp [D.alike] at h
  | .scr _, e, h => by cases e <;> simp [D.alike] at h
  | .adr _, e, h => by cases e <;> simp [D.alike] at h
theorem eqvs_alike : ∀ d e : List D, D.alikes d e = true → PyData.eqvAll (toPs d) (toPs e) = D.eqbs d e
  | [], [], _ => by simp [toPs, PyData.eqvAll, D.eqbs]
  | [], _ :: _, _ => by simp [toPs, PyData.eqvAll, D.eqbs]
  | _ :: _, [], _ => by simp [toPs, PyData.eqvAll, D.eqbs]
  | d :: ds, e :: es, h => by
    simp only [D.alikes, Bool.and_eq_true] at h
    simp only [toPs, PyData.eqvAll, D.eqbs]
    rw [eqv_alike d e h.1, eqvs_alike ds es h.2]
end
mutual
theorem ltb_toP : ∀ d e : D, D.alike d e = true → PySem.W.dataLt (toP d) (toP e) = D.ltb d e
  | .non, e, h => by
    cases e with
    | non => simp only [toP, D.ltb]; rfl
    | _ => simp [D.alike] at h
  | .bl a, e, h => by
    cases e with
    | bl b => simp only [toP, D.ltb]; rw [PySem.W.dataLt_bool]; cases a <;> cases b <;> rfl
    | _ => simp [D.alike] at h
  | .int a, e, h => by
    cases e with
    | int b => simp only [toP, D.ltb]; exact PySem.W.dataLt_int a b
    | _ => simp [D.alike] at h
  | .str a, e, h => by
    cases e with
    | str b => simp only [toP, D.ltb]; rw [PySem.W.dataLt_str, ltL_iff]; rfl
    | _ => simp [D.alike] at h
  | .lst a, e, h => by
    cases e with
    | lst b =>
      simp only [D.alike] at h
      simp only [toP, D.ltb]
      rw [PySem.W.dataLt_list]
      exact ltbs_toP a b h
    | _ => simp [D.alike] at h
  | .tup a, e, h => by
    cases e with
    | tup b =>
      simp only [D.alike] at h
      simp only [toP, D.ltb]
      rw [PySem.W.dataLt_tuple]
      exact ltbs_toP a b h
    | _ => simp [D.alike] at h
  | .dct _, e, h => by cases e <;> simp [D.alike] at h
  | .scr _, e, h => by cases e <;> simp [D.alike] at h
  | .adr _, e, h => by cases e <;> simp [D.alike] at h
theorem ltbs_toP : ∀ d e : List D, D.alikes d e = true → PyProof.Rows.lexLt PyProof.Rows.itemOrd (PySem.W.keyToksAll (toPs d)) (PySem.W.keyToksAll (toPs e)) = D.ltbs d e
  | [], [], _ => by
    simp only [toPs, D.ltbs]
    decide +kernel
  | _ :: _, [], _ => by
    simp only [toPs, D.ltbs, PySem.W.keyToksAll]
    rfl
  | [], _ :: _, _ => by
    simp only [toPs, D.ltbs, PySem.W.keyToksAll]
    rfl
  | d :: ds, e :: es, h => by
    simp only [D.alikes, Bool.and_eq_true] at h
    simp only [toPs, D.ltbs]
    rw [PySem.W.dataLt_cons (alike_toP d e h.1), eqv_alike d e h.1, ltb_toP d e h.1, ltbs_toP ds es h.2]
end
mutual
theorem depth_toP : ∀ d : D, d.nodct = true → (toP d).depth = d.depth
  | .non, _ => rfl
  | .bl _, _ => rfl
  | .int _, _ => rfl
  | .str l, p => rfl
  | .lst ds, p => by
    simp only [D.nodct] at p
    simp only [toP, PyData.depth, D.depth]
    rw [depths_toP ds p]
  | .tup ds, p => by
    simp only [D.nodct] at p
    simp only [toP, PyData.depth, D.depth]
    rw [depths_toP ds p]
  | .dct _, p => by simp [D.nodct] at p
  | .scr _, p => by simp [D.nodct] at p
  | .adr _, p => by simp [D.nodct] at p
theorem depths_toP : ∀ d : List D, D.nodcts d = true → PyData.depthAll (toPs d) = D.depths d
  | [], _ => rfl
  | d :: ds, p => by
    simp only [D.nodcts, Bool.and_eq_true] at p
    simp only [toPs, PyData.depthAll, D.depths]
    rw [depth_toP d p.1, depths_toP ds p.2]
end
theorem alike_symm_non {d e : D} (h : ordOk d e = true) : d.nodct = true ∧ e.nodct = true ∧ D.alike d e = true ∧ d.depth ≤ 60 ∧ toP d ≠ .none := by
  unfold ordOk at h
  simp only [Bool.and_eq_true, decide_eq_true_eq] at h
  obtain ⟨⟨⟨⟨h1, h2⟩, h3⟩, h4⟩, h5⟩ := h
  refine ⟨h1, h2, h3, h4, ?_⟩
  cases d with
  | non => simp at h5
  | _ => intro z; simp [toP] at z
mutual
theorem alike_symm : ∀ d e : D, D.alike d e = true → D.alike e d = true
  | .non, e, h => by cases e <;> first | (simp [D.alike]; done) | (simp [D.alike] at h; done)
  | .bl _, e, h => by cases e <;> first | (simp [D.alike]; done) | (simp [D.alike] at h; done)
  | .int _, e, h => by cases e <;> first | (simp [D.alike]; done) | (simp [D.alike] at h; done)
  | .str _, e, h => by cases e <;> first | (simp [D.alike]; done) | (simp [D.alike] at h; done)
  | .lst a, e, h => by
    cases e with
    | lst b => simp only [D.alike] at h ⊢; exact alikes_symm a b h
    | _ => simp [D.alike] at h
  | .tup a, e, h => by
    cases e with
    | tup b => simp only [D.alike] at h ⊢; exact alikes_symm a b h
    | _ => simp [D.alike] at h
  | .dct _, e, h => by cases e <;> simp [D.alike] at h
  | .scr _, e, h => by cases e <;> simp [D.alike] at h
  | .adr _, e, h => by cases e <;> simp [D.alike] at h
theorem alikes_symm : ∀ d e : List D, D.alikes d e = true → D.alikes e d = true
  | [], [], _ => by simp [D.alikes]
  | [], _ :: _, _ => by simp [D.alikes]
  | _ :: _, [], _ => by simp [D.alikes]
  | d :: ds, e :: es, h => by
    simp only [D.alikes, Bool.and_eq_true] at h ⊢
    exact ⟨alike_symm d e h.1, alikes_symm ds es h.2⟩
end
theorem Dp.rd {pins : List (Addr × Obj)} {σ : L2.St} {s : Shared} (I : L2.Inv X pins σ H s) {d : D} {x : V} {v : Value} (hd : d.nodct = true) (hx : Ra X.K M H x d) (rx : RelV x v) : ∃ as, Reads s.heap v (toP d) as :=
  L2.Dp.reads I _ _ _ (hx.dp hd) rx
theorem opd_lt (hu : X.A.units + 64 < cLine) : OpR X (compareOp .Lt) (opD X.K fun a b => cb (dCmp .lt a b)) := by
  intro pins s σ H x y v u Q I rx ry ⟨B, ss, vs, d, e, r, hR, hx, hy, hg, hQ⟩
  obtain ⟨k, hk, rfl⟩ := cb_some hg
  have gen : ∀ k, (if ordOk d e then some (D.ltb d e) else none) = some k → (∀ u H', R X.K B (ss ++ [(Rv.val (.bl k)).sl]) (vs ++ [some u]) H' → Q u H') → wpAny (model X.prog X.w) X.A (compareOp .Lt v u) (EP X pins σ Q) X.xe s := fun k hk hQ => by
    by_cases ho : ordOk d e = true
    · rw [if_pos ho] at hk
      cases hk
      obtain ⟨h1, h2, h3, h4, h5⟩ := alike_symm_non ho
      obtain ⟨as, ra⟩ := Dp.rd I h1 hx rx
      obtain ⟨bs, rb⟩ := Dp.rd I h2 hy ry
      refine PySem.W.lt_data ra rb (alike_toP d e h3) h5 (by rw [depth_toP d h1]; omega) ?_
      rw [ltb_toP d e h3]
      exact ⟨.bl _, H, I, rfl, fin_val hR (.bl _) hQ⟩
    · rw [if_neg ho] at hk; cases hk
  cases d with
  | int a =>
    cases e with
    | int b =>
      cases hk
      rw [hx.intV] at rx; rw [hy.intV] at ry
      exact op_lt pins s σ H _ _ v u Q I rx ry ⟨a, b, rfl, rfl, fin_val hR (.bl _) hQ⟩
    | _ => exact gen k hk hQ
  | str a =>
    cases e with
    | str b =>
      cases hk
      rw [hx.strV] at rx; rw [hy.strV] at ry
      refine op_lt_str pins s σ H _ _ v u Q I rx ry ⟨_, _, rfl, rfl, ?_⟩
      rw [ltL_iff] at hQ
      exact fin_val hR (.bl _) hQ
    | _ => exact gen k hk hQ
  | _ => exact gen k hk hQ
theorem opd_le (hu : X.A.units + 64 < cLine) : OpR X (compareOp .LtE) (opD X.K fun a b => cb (dCmp .le a b)) := by
  intro pins s σ H x y v u Q I rx ry ⟨B, ss, vs, d, e, r, hR, hx, hy, hg, hQ⟩
  obtain ⟨k, hk, rfl⟩ := cb_some hg
  have gen : ∀ k, (if ordOk d e then some (!D.ltb e d) else none) = some k → (∀ u H', R X.K B (ss ++ [(Rv.val (.bl k)).sl]) (vs ++ [some u]) H' → Q u H') → wpAny (model X.prog X.w) X.A (compareOp .LtE v u) (EP X pins σ Q) X.xe s := fun k hk hQ => by
    by_cases ho : ordOk d e = true
    · rw [if_pos ho] at hk
      cases hk
      obtain ⟨h1, h2, h3, h4, h5⟩ := alike_symm_non ho
      obtain ⟨as, ra⟩ := Dp.rd I h1 hx rx
      obtain ⟨bs, rb⟩ := Dp.rd I h2 hy ry
      refine PySem.W.le_data ra rb (alike_toP d e h3) h5 (by rw [depth_toP d h1]; omega) ?_
      rw [ltb_toP e d (alike_symm d e h3)]
      exact ⟨.bl _, H, I, rfl, fin_val hR (.bl _) hQ⟩
    · rw [if_neg ho] at hk; cases hk
  cases d with
  | int a =>
    cases e with
    | int b =>
      cases hk
      rw [hx.intV] at rx; rw [hy.intV] at ry
      exact op_le pins s σ H _ _ v u Q I rx ry ⟨a, b, rfl, rfl, fin_val hR (.bl _) hQ⟩
    | _ => exact gen k hk hQ
  | str a =>
    cases e with
    | str b =>
      cases hk
      rw [hx.strV] at rx; rw [hy.strV] at ry
      refine op_le_str pins s σ H _ _ v u Q I rx ry ⟨_, _, rfl, rfl, ?_⟩
      rw [ltL_iff] at hQ
      exact fin_val hR (.bl _) hQ
    | _ => exact gen k hk hQ
  | _ => exact gen k hk hQ
theorem opd_gt (hu : X.A.units + 64 < cLine) : OpR X (compareOp .Gt) (opD X.K fun a b => cb (dCmp .gt a b)) := by
  intro pins s σ H x y v u Q I rx ry ⟨B, ss, vs, d, e, r, hR, hx, hy, hg, hQ⟩
  obtain ⟨k, hk, rfl⟩ := cb_some hg
  have gen : ∀ k, (if ordOk d e then some (D.ltb e d) else none) = some k → (∀ u H', R X.K B (ss ++ [(Rv.val (.bl k)).sl]) (vs ++ [some u]) H' → Q u H') → wpAny (model X.prog X.w) X.A (compareOp .Gt v u) (EP X pins σ Q) X.xe s := fun k hk hQ => by
    by_cases ho : ordOk d e = true
    · rw [if_pos ho] at hk
      cases hk
      obtain ⟨h1, h2, h3, h4, h5⟩ := alike_symm_non ho
      obtain ⟨as, ra⟩ := Dp.rd I h1 hx rx
      obtain ⟨bs, rb⟩ := Dp.rd I h2 hy ry
      refine PySem.W.gt_data ra rb (alike_toP d e h3) h5 (by rw [depth_toP d h1]; omega) ?_
      rw [ltb_toP e d (alike_symm d e h3)]
      exact ⟨.bl _, H, I, rfl, fin_val hR (.bl _) hQ⟩
    · rw [if_neg ho] at hk; cases hk
  cases d with
  | int a =>
    cases e with
    | int b =>
      cases hk
      rw [hx.intV] at rx; rw [hy.intV] at ry
      exact op_gt pins s σ H _ _ v u Q I rx ry ⟨a, b, rfl, rfl, fin_val hR (.bl _) hQ⟩
    | _ => exact gen k hk hQ
  | str a =>
    cases e with
    | str b =>
      cases hk
      rw [hx.strV] at rx; rw [hy.strV] at ry
      refine op_gt_str pins s σ H _ _ v u Q I rx ry ⟨_, _, rfl, rfl, ?_⟩
      rw [ltL_iff] at hQ
      exact fin_val hR (.bl _) hQ
    | _ => exact gen k hk hQ
  | _ => exact gen k hk hQ
theorem opd_ge (hu : X.A.units + 64 < cLine) : OpR X (compareOp .GtE) (opD X.K fun a b => cb (dCmp .ge a b)) := by
  intro pins s σ H x y v u Q I rx ry ⟨B, ss, vs, d, e, r, hR, hx, hy, hg, hQ⟩
  obtain ⟨k, hk, rfl⟩ := cb_some hg
  have gen : ∀ k, (if ordOk d e then some (!D.ltb d e) else none) = some k → (∀ u H', R X.K B (ss ++ [(Rv.val (.bl k)).sl]) (vs ++ [some u]) H' → Q u H') → wpAny (model X.prog X.w) X.A (compareOp .GtE v u) (EP X pins σ Q) X.xe s := fun k hk hQ => by
    by_cases ho : ordOk d e = true
    · rw [if_pos ho] at hk
      cases hk
      obtain ⟨h1, h2, h3, h4, h5⟩ := alike_symm_non ho
      obtain ⟨as, ra⟩ := Dp.rd I h1 hx rx
      obtain ⟨bs, rb⟩ := Dp.rd I h2 hy ry
      refine PySem.W.ge_data ra rb (alike_toP d e h3) h5 (by rw [depth_toP d h1]; omega) ?_
      rw [ltb_toP d e h3]
      exact ⟨.bl _, H, I, rfl, fin_val hR (.bl _) hQ⟩
    · rw [if_neg ho] at hk; cases hk
  cases d with
  | int a =>
    cases e with
    | int b =>
      cases hk
      rw [hx.intV] at rx; rw [hy.intV] at ry
      exact op_ge pins s σ H _ _ v u Q I rx ry ⟨a, b, rfl, rfl, fin_val hR (.bl _) hQ⟩
    | _ => exact gen k hk hQ
  | str a =>
    cases e with
    | str b =>
      cases hk
      rw [hx.strV] at rx; rw [hy.strV] at ry
      refine op_ge_str pins s σ H _ _ v u Q I rx ry ⟨_, _, rfl, rfl, ?_⟩
      rw [ltL_iff] at hQ
      exact fin_val hR (.bl _) hQ
    | _ => exact gen k hk hQ
  | _ => exact gen k hk hQ

/-! ### in, not in -/
theorem isIn_iff (a : List Nat) : ∀ b : List Nat, isIn a b = true ↔ ∃ i, i + a.length ≤ b.length ∧ (b.drop i).take a.length = a
  | [] => by
    unfold isIn
    constructor
    · intro h
      have : a = [] := List.isEmpty_iff.mp h
      subst this
      exact ⟨0, by simp, rfl⟩
    · rintro ⟨i, h1, h2⟩
      simp at h1
      rw [h1.2]; rfl
  | c :: r => by
    have ih := isIn_iff a r
    unfold isIn
    rw [Bool.or_eq_true, ih, List.isPrefixOf_iff_prefix]
    constructor
    · rintro (h | ⟨i, h1, h2⟩)
      · refine ⟨0, by have := h.length_le; simpa using this, ?_⟩
        rw [List.drop_zero]
        exact (List.prefix_iff_eq_take.mp h).symm
      · exact ⟨i + 1, by simp; omega, by rw [List.drop_succ_cons]; exact h2⟩
    · rintro ⟨i, h1, h2⟩
      cases i with
      | zero =>
        rw [List.drop_zero] at h2
        exact .inl (List.prefix_iff_eq_take.mpr h2.symm)
      | succ i =>
        rw [List.drop_succ_cons] at h2
        exact .inr ⟨i, by simp at h1; omega, h2⟩
theorem occ_isIn (a b : List Nat) : (!(Builtin.Str.occurrences (mkS b) (mkS a) 0 (mkS b).length 1).isEmpty) = isIn a b := by
  rw [Bool.eq_iff_iff, isIn_iff]
  rw [PySem.StrLaws.found_iff]
  refine exists_congr fun i => ?_
  rw [mkS_len, mkS_len]
  refine and_congr_right fun hi => ?_
  unfold Builtin.Str.subAt
  rw [mkS_len, beq_iff_eq]
  constructor
  · intro h
    have := congrArg Array.toList h
    simpa [mkS] using this
  · intro h
    apply Array.toList_inj.mp
    simpa [mkS] using h
theorem eqV_of {d e : D} {x y : V} (fd : d.flat = true) (fe : e.flat = true) (hx : Rp K M H x d) (hy : Rp K M H y e) : flatV x = true ∧ L2.eqV x y = D.eqb d e := by
  cases d <;> cases e <;> first | (simp [D.flat] at fd; done) | (simp [D.flat] at fe; done) | skip
  all_goals
    cases hx
    cases hy
    refine ⟨rfl, ?_⟩
    first
      | rfl
      | exact mkS_beq _ _
      | simp [L2.eqV, D.eqb]
theorem flat_of {d : D} {x : V} (fd : d.flat = true) (hx : Rp K M H x d) : flatV x = true := (eqV_of fd fd hx hx).1
theorem any_of {e : D} {y : V} (fe : e.flat = true) (hy : Rp K M H y e) : ∀ {ds : List D} {xs : List V}, ds.all D.flat = true → RpA K M H xs ds → xs.all flatV = true ∧ (xs.any fun z => L2.eqV z y) = ds.any fun z => D.eqb z e
  | [], _, _, .nil => ⟨rfl, rfl⟩
  | d :: ds, _, p, .cons h t => by
    rw [List.all_cons, Bool.and_eq_true] at p
    obtain ⟨g1, g2⟩ := eqV_of p.1 fe h hy
    obtain ⟨g3, g4⟩ := any_of fe hy p.2 t
    exact ⟨by rw [List.all_cons, g1, g3]; rfl, by rw [List.any_cons, List.any_cons, g2, g4]⟩
theorem toPs_any (e : D) (he : e.plain = true) : ∀ ds : List D, D.plains ds = true → ((toPs ds).any fun z => PyData.eqv z (toP e)) = ds.any fun z => D.eqb z e
  | [], _ => rfl
  | d :: ds, p => by
    simp only [D.plains, Bool.and_eq_true] at p
    rw [toPs, List.any_cons, List.any_cons, eqv_toP d e p.1 he, toPs_any e he ds p.2]
theorem opd_in (hu : X.A.units + 65 < cLine) : OpR X (compareOp .In) (opD X.K fun a b => cb (dCmp .isin a b)) := by
  intro pins s σ H x y v u Q I rx ry ⟨B, ss, vs, d, e, r, hR, hx, hy, hg, hQ⟩
  obtain ⟨k, hk, rfl⟩ := cb_some hg
  have hk : dIn d e = some k := hk
  cases e with
  | lst ds =>
    obtain ⟨p, xs, rfl, g1, g2, g3⟩ := hy.lstV
    simp only [dIn] at hk
    by_cases hf : (d.flat && ds.all D.flat) = true
    · rw [if_pos hf] at hk
      cases hk
      rw [Bool.and_eq_true] at hf
      obtain ⟨g4, g5⟩ := any_of hf.1 (hx.flatR hf.1) hf.2 g3
      refine op_in_seq pins s σ H _ _ v u Q I rx ry ⟨p, xs, rfl, .inl (.inl (.inl g1)), flat_of hf.1 (hx.flatR hf.1), g4, ?_⟩
      simp only [Bool.false_eq_true, if_false]
      rw [show inV x xs = ds.any fun z => D.eqb z d from g5]
      exact fin_val hR (.bl _) hQ
    · rw [if_neg hf] at hk
      by_cases hs : (d.shaped && (D.lst ds).shaped) = true
      · rw [if_pos hs] at hk
        cases hk
        rw [Bool.and_eq_true] at hs
        have pl : D.plains ds = true := by simpa [D.plain] using plain_of_shaped hs.2
        refine op_inD hu pins s σ H _ _ v u Q I rx ry ⟨toP d, toPs ds, hx.dp (nodct_plain _ (plain_of_shaped hs.1)), hy.dp (nodct_plain _ (plain_of_shaped hs.2)), shaped_toP hs.1, shaped_toP hs.2, ?_⟩
        rw [toPs_any d (plain_of_shaped hs.1) ds pl]
        exact fin_val hR (.bl _) hQ
      · rw [if_neg hs] at hk; cases hk
  | tup ds =>
    obtain ⟨p, xs, rfl, g1, g3⟩ := hy.tupV
    simp only [dIn] at hk
    by_cases hf : (d.flat && ds.all D.flat) = true
    · rw [if_pos hf] at hk
      cases hk
      rw [Bool.and_eq_true] at hf
      obtain ⟨g4, g5⟩ := any_of hf.1 (hx.flatR hf.1) hf.2 g3
      refine op_in_seq pins s σ H _ _ v u Q I rx ry ⟨p, xs, rfl, .inr g1, flat_of hf.1 (hx.flatR hf.1), g4, ?_⟩
      simp only [Bool.false_eq_true, if_false]
      rw [show inV x xs = ds.any fun z => D.eqb z d from g5]
      exact fin_val hR (.bl _) hQ
    · rw [if_neg hf] at hk; cases hk
  | str l =>
    cases d with
    | str a =>
      cases hk
      rw [hx.strV] at rx; rw [hy.strV] at ry
      refine op_in_str pins s σ H _ _ v u Q I rx ry ⟨_, _, rfl, rfl, ?_⟩
      rw [occ_isIn]
      exact fin_val hR (.bl _) hQ
    | _ => cases hk
  | _ => cases hk
theorem opd_notin (hu : X.A.units + 65 < cLine) : OpR X (compareOp .NotIn) (opD X.K fun a b => cb (dCmp .notin a b)) := by
  intro pins s σ H x y v u Q I rx ry ⟨B, ss, vs, d, e, r, hR, hx, hy, hg, hQ⟩
  obtain ⟨k, hk, rfl⟩ := cb_some hg
  obtain ⟨k', hk', rfl⟩ : ∃ k', dIn d e = some k' ∧ k = !k' := by
    have hk : (dIn d e).map (!·) = some k := hk
    cases q : dIn d e with
    | none => rw [q] at hk; cases hk
    | some k' => rw [q] at hk; exact ⟨k', rfl, (Option.some.inj hk).symm⟩
  have hk := hk'
  cases e with
  | lst ds =>
    obtain ⟨p, xs, rfl, g1, g2, g3⟩ := hy.lstV
    simp only [dIn] at hk
    by_cases hf : (d.flat && ds.all D.flat) = true
    · rw [if_pos hf] at hk
      cases hk
      rw [Bool.and_eq_true] at hf
      obtain ⟨g4, g5⟩ := any_of hf.1 (hx.flatR hf.1) hf.2 g3
      refine op_notIn_seq pins s σ H _ _ v u Q I rx ry ⟨p, xs, rfl, .inl (.inl (.inl g1)), flat_of hf.1 (hx.flatR hf.1), g4, ?_⟩
      simp only [if_true]
      rw [show inV x xs = ds.any fun z => D.eqb z d from g5]
      exact fin_val hR (.bl _) hQ
    · rw [if_neg hf] at hk
      by_cases hs : (d.shaped && (D.lst ds).shaped) = true
      · rw [if_pos hs] at hk
        cases hk
        rw [Bool.and_eq_true] at hs
        have pl : D.plains ds = true := by simpa [D.plain] using plain_of_shaped hs.2
        refine op_notInD hu pins s σ H _ _ v u Q I rx ry ⟨toP d, toPs ds, hx.dp (nodct_plain _ (plain_of_shaped hs.1)), hy.dp (nodct_plain _ (plain_of_shaped hs.2)), shaped_toP hs.1, shaped_toP hs.2, ?_⟩
        rw [toPs_any d (plain_of_shaped hs.1) ds pl]
        exact fin_val hR (.bl _) hQ
      · rw [if_neg hs] at hk; cases hk
  | tup ds =>
    obtain ⟨p, xs, rfl, g1, g3⟩ := hy.tupV
    simp only [dIn] at hk
    by_cases hf : (d.flat && ds.all D.flat) = true
    · rw [if_pos hf] at hk
      cases hk
      rw [Bool.and_eq_true] at hf
      obtain ⟨g4, g5⟩ := any_of hf.1 (hx.flatR hf.1) hf.2 g3
      refine op_notIn_seq pins s σ H _ _ v u Q I rx ry ⟨p, xs, rfl, .inr g1, flat_of hf.1 (hx.flatR hf.1), g4, ?_⟩
      simp only [if_true]
      rw [show inV x xs = ds.any fun z => D.eqb z d from g5]
      exact fin_val hR (.bl _) hQ
    · rw [if_neg hf] at hk; cases hk
  | str l =>
    cases d with
    | str a =>
      cases hk
      rw [hx.strV] at rx; rw [hy.strV] at ry
      refine op_notin_str pins s σ H _ _ v u Q I rx ry ⟨_, _, rfl, rfl, ?_⟩
      rw [occ_isIn]
      exact fin_val hR (.bl _) hQ
    | _ => cases hk
  | _ => cases hk
theorem non_iff {d : D} {x : V} (hx : Ra K M H x d) : decide (x = .non) = d.isNon := by
  cases hx with
  | rp hx => cases hx <;> simp [D.isNon]
  | own e o =>
    subst e
    cases d <;> first | exact o.elim | simp [D.isNon]
theorem opd_isN : OpR X (compareOp .Is) (opD X.K fun a b => cb (dCmp .isnone a b)) := by
  intro pins s σ H x y v u Q I rx ry ⟨B, ss, vs, d, e, r, hR, hx, hy, hg, hQ⟩
  obtain ⟨k, hk, rfl⟩ := cb_some hg
  cases e with
  | non =>
    simp only [dCmp] at hk
    cases hk
    refine op_isN pins s σ H _ _ v u Q I rx ry ⟨hy.nonV, ?_⟩
    rw [non_iff hx]
    exact fin_val hR (.bl _) hQ
  | _ => cases d <;> simp [dCmp] at hk
theorem opd_notN : OpR X (compareOp .IsNot) (opD X.K fun a b => cb (dCmp .notnone a b)) := by
  intro pins s σ H x y v u Q I rx ry ⟨B, ss, vs, d, e, r, hR, hx, hy, hg, hQ⟩
  obtain ⟨k, hk, rfl⟩ := cb_some hg
  cases e with
  | non =>
    simp only [dCmp] at hk
    cases hk
    refine op_notN pins s σ H _ _ v u Q I rx ry ⟨hy.nonV, ?_⟩
    rw [non_iff hx]
    exact fin_val hR (.bl _) hQ
  | _ => cases d <;> simp [dCmp] at hk
def copP : Cop → CmpOp
  | .eq => .Eq | .ne => .NotEq | .lt => .Lt | .le => .LtE | .gt => .Gt | .ge => .GtE | .isin => .In | .notin => .NotIn | .isnone => .Is | .notnone => .IsNot
theorem opd_cmp (hu : X.A.units + 65 < cLine) : ∀ op : Cop, OpR X (compareOp (copP op)) (opD X.K fun a b => cb (dCmp op a b))
  | .eq => opd_eq (by omega) | .ne => opd_ne (by omega) | .lt => opd_lt (by omega) | .le => opd_le (by omega) | .gt => opd_gt (by omega) | .ge => opd_ge (by omega) | .isin => opd_in hu | .notin => opd_notin hu | .isnone => opd_isN | .notnone => opd_notN

/-! ### truth -/
theorem truV_of {d : D} {x : V} {b : Bool} (hx : Rp K M H x d) (h : dTruth d = some b) : TruV K x H b := by
  cases d with
  | non => cases h; cases hx; rfl
  | bl b => cases h; cases hx; rfl
  | int i =>
    cases h; cases hx
    show decide (i ≠ 0) = (i != 0)
    by_cases e : i = 0
    · subst e; rfl
    · rw [decide_eq_true e]; simp [e]
  | str l =>
    cases hx
    simp only [dTruth] at h
    by_cases hz : lineOk l.length = true
    · rw [if_pos hz] at h
      cases h
      refine ⟨by rw [mkS_len]; exact lineOk_iff hz, ?_⟩
      rw [mkS_len]
      cases l with
      | nil => rfl
      | cons c r => simp; omega
    · rw [if_neg hz] at h; cases h
  | lst l =>
    cases h
    obtain ⟨p, xs, rfl, g1, g2, g3⟩ := hx.lstV
    refine .inl ⟨xs, .inl (.inl g1), ?_⟩
    cases g3 <;> rfl
  | tup l =>
    cases h
    obtain ⟨p, xs, rfl, g1, g3⟩ := hx.tupV
    refine .inr (.inl ⟨xs, g1, ?_⟩)
    cases g3 <;> rfl
  | dct _ => cases h
  | scr _ => cases h
  | adr _ => cases h

/-! ### places -/
theorem ixd : IxR X (opD X.K fun a b => (dIdx a b).map .val) := by
  intro value slice pins s σ H x y v u Q I rx ry ⟨B, ss, vs, d, e, r, hR, hx, hy, hg, hQ⟩ hs
  obtain ⟨z, hz, rfl⟩ : ∃ z, dIdx d e = some z ∧ r = .val z := by
    have hg : (dIdx d e).map Rv.val = some r := hg
    cases q : dIdx d e with
    | none => rw [q] at hg; cases hg
    | some z => rw [q] at hg; exact ⟨z, rfl, (Option.some.inj hg).symm⟩
  cases d with
  | lst ds =>
    cases e with
    | int i =>
      obtain ⟨p, xs, rfl, g1, g2, g3⟩ := hx.lstV
      obtain ⟨w, h1, h2⟩ := g3.atI (show Gw.atI ds i = some z from hz)
      exact ix_list value slice pins s σ H _ _ v u Q I rx ry ⟨p, xs, i, w, rfl, hy.intV, .inl (.inl g1), h1, fin_val hR h2 hQ⟩ hs
    | _ => cases hz
  | tup ds =>
    cases e with
    | int i =>
      obtain ⟨p, xs, rfl, g1, g3⟩ := hx.tupV
      obtain ⟨w, h1, h2⟩ := g3.atI (show Gw.atI ds i = some z from hz)
      exact ix_tup value slice pins s σ H _ _ v u Q I rx ry ⟨p, xs, i, w, rfl, hy.intV, g1, h1, fin_val hR h2 hQ⟩ hs
    | _ => cases hz
  | str l =>
    cases e with
    | int i =>
      simp only [dIdx] at hz
      by_cases hl : lineOk l.length = true
      · rw [if_pos hl] at hz
        cases q : Gw.atI l i with
        | none => rw [q] at hz; cases hz
        | some c =>
          rw [q] at hz
          cases hz
          refine ix_str value slice pins s σ H _ _ v u Q I rx ry ⟨mkS l, i, c, hx.strV, hy.intV, by rw [mkS_len]; exact lineOk_iff hl, q, ?_⟩ hs
          exact fin_val hR (.str [c]) hQ
      · rw [if_neg hl] at hz; cases hz
    | _ => cases hz
  | _ => cases hz
def cutD (K : PySem.W.Frag) : V → Option Int → Option Int → Hp → VK → Prop := fun x lo hi H Q => ∃ (B : Bs) (ss : List Sl) (vs : List (Option V)) (d : D) (r : Rv),
  R K B ss vs H ∧ Ra K (Mt B.Z ss vs) H x d ∧ dCut d lo hi = some r ∧ ∀ u H', R K B (ss ++ [r.sl]) (vs ++ [some u]) H' → Q u H'
theorem cutS_mkS (l : List Nat) (lo hi : Option Int) : cutS (mkS l) lo hi = mkS (cut l lo hi) := by
  unfold cutS Gw.cut
  rw [mkS_len, sIx_eq, sIx_eq]; rfl
theorem sld : SlR X (cutD X.K) := by
  intro pins s σ H x v vl vu lo hi sl Q I rx hs pl pu ⟨B, ss, vs, d, r, hR, hx, hg, hQ⟩
  cases d with
  | lst ds =>
    cases hg
    obtain ⟨p, xs, rfl, g1, g2, g3⟩ := hx.lstV
    exact sl_list pins s σ H _ v vl vu lo hi sl Q I rx hs pl pu ⟨p, xs, rfl, .inl (.inl g1), fin_lst hR (g3.cut lo hi) hQ⟩
  | str l =>
    simp only [dCut] at hg
    by_cases hl : lineOk l.length = true
    · rw [if_pos hl] at hg
      cases hg
      refine sl_str pins s σ H _ v vl vu lo hi sl Q I rx hs pl pu ⟨mkS l, hx.strV, by rw [mkS_len]; exact lineOk_iff hl, ?_⟩
      rw [cutS_mkS]
      exact fin_val hR (.str _) hQ
    · rw [if_neg hl] at hg; cases hg
  | tup ds =>
    cases hg
    have hx' := hx.tupR
    obtain ⟨p, xs, rfl, g1, g3⟩ := hx.tupV
    refine sl_tupA pins s σ H _ v vl vu lo hi sl Q I rx hs pl pu ⟨p, xs, rfl, g1, fun hw => ?_, fun _ => fin_tup hR (g3.cut lo hi) hQ⟩
    have e : cut ds lo hi = ds := by
      unfold Gw.cut
      rw [sIx_eq, sIx_eq, g3.len] at hw
      rw [hw.1, hw.2]
      simp
    rw [e] at hQ
    exact fin_val hR hx' hQ
  | scr ns =>
    cases hg
    obtain ⟨p, rfl, g1⟩ := hx.scrV
    exact sl_list pins s σ H _ v vl vu lo hi sl Q I rx hs pl pu ⟨p, _, rfl, g1, fin_lst hR ((RpA.ints ns).cut lo hi) hQ⟩
  | _ => cases hg
end
end Gw

set_option Elab.async false
set_option linter.all false
set_option maxRecDepth 100000
set_option maxHeartbeats 1000000
/-! The value layer, part 6: built-in functions on values. -/
namespace Gw
open PySem L2

/-! ### sorting -/
section
variable {α : Type} {le : α → α → Bool}
def insG (f : α → α → Bool) (x : α) : List α → List α
  | [] => [x]
  | y :: r => if f y x then y :: insG f x r else x :: y :: r
theorem insG_mem {f : α → α → Bool} {x z : α} : ∀ {l : List α}, z ∈ insG f x l ↔ z = x ∨ z ∈ l
  | [] => by simp [insG]
  | y :: r => by
    unfold insG
    split
    · rw [List.mem_cons, insG_mem, List.mem_cons]
      constructor
      · rintro (h | h | h)
        · exact .inr (.inl h)
        · exact .inl h
        · exact .inr (.inr h)
      · rintro (h | h | h)
        · exact .inr (.inl h)
        · exact .inl h
        · exact .inr (.inr h)
    · rw [List.mem_cons]
theorem isort_mem {f : α → α → Bool} {z : α} : ∀ {l : List α}, z ∈ l.foldr (insG f) [] ↔ z ∈ l
  | [] => by simp
  | x :: r => by rw [List.foldr_cons, insG_mem, isort_mem, List.mem_cons]
theorem ins_ok (h : PySem.W.TotalLe le) {f : α → α → Bool} {x : α} : ∀ {l : List α}, (∀ y ∈ l, le x y = !f y x) → l.Pairwise (fun a b => le a b = true) →
    (insG f x l).Pairwise (fun a b => le a b = true) ∧ ∀ c, (insG f x l).filter (PySem.W.sameRank le c) = (x :: l).filter (PySem.W.sameRank le c)
  | [], _, _ => by simp [insG]
  | y :: r, hf, hp => by
    rw [List.pairwise_cons] at hp
    have hy := hf y List.mem_cons_self
    unfold insG
    cases e : f y x with
    | false =>
      rw [e] at hy
      have hxy : le x y = true := by rw [hy]; rfl
      simp only [Bool.false_eq_true, if_false]
      refine ⟨?_, fun c => trivial⟩
      rw [List.pairwise_cons, List.pairwise_cons]
      refine ⟨fun z hz => ?_, hp⟩
      rcases List.mem_cons.mp hz with rfl | hz
      · exact hxy
      · exact h.trans _ _ _ hxy (hp.1 z hz)
    | true =>
      rw [e] at hy
      have hxy : le x y = false := by rw [hy]; rfl
      have hyx : le y x = true := (h.total x y).elim (fun z => by rw [hxy] at z; cases z) fun z => z
      simp only [if_true]
      obtain ⟨h1, h2⟩ := ins_ok h (fun z hz => hf z (List.mem_cons_of_mem _ hz)) hp.2
      refine ⟨?_, fun c => ?_⟩
      · rw [List.pairwise_cons]
        refine ⟨fun z hz => ?_, h1⟩
        rcases insG_mem.mp hz with rfl | hz
        · exact hyx
        · exact hp.1 z hz
      · rw [List.filter_cons, h2 c]
        by_cases hc : PySem.W.sameRank le c y = true
        · rw [if_pos hc]
          have hx : PySem.W.sameRank le c x = false := by
            unfold PySem.W.sameRank at hc ⊢
            rw [Bool.and_eq_true] at hc
            cases hcx : le x c with
            | false => simp
            | true =>
              have := h.trans _ _ _ hcx hc.1
              rw [hxy] at this; cases this
          rw [List.filter_cons, hx, List.filter_cons, hx, List.filter_cons, if_pos hc]
          simp
        · rw [if_neg hc, List.filter_cons, List.filter_cons, List.filter_cons, if_neg hc]
theorem isort_ok (h : PySem.W.TotalLe le) {f : α → α → Bool} : ∀ {l : List α}, (∀ a ∈ l, ∀ b ∈ l, le a b = !f b a) →
    (l.foldr (insG f) []).Pairwise (fun a b => le a b = true) ∧ ∀ c, (l.foldr (insG f) []).filter (PySem.W.sameRank le c) = l.filter (PySem.W.sameRank le c)
  | [], _ => by simp
  | x :: r, hf => by
    obtain ⟨h1, h2⟩ := isort_ok h (l := r) fun a ha b hb => hf a (List.mem_cons_of_mem _ ha) b (List.mem_cons_of_mem _ hb)
    obtain ⟨h3, h4⟩ := ins_ok h (x := x) (f := f) (l := r.foldr (insG f) []) (fun y hy => hf x List.mem_cons_self y (List.mem_cons_of_mem _ (isort_mem.mp hy))) h1
    rw [List.foldr_cons]
    refine ⟨h3, fun c => ?_⟩
    rw [h4 c, List.filter_cons, h2 c, List.filter_cons]
theorem isort_eq (h : PySem.W.TotalLe le) {f : α → α → Bool} {l : List α} (hf : ∀ a ∈ l, ∀ b ∈ l, le a b = !f b a) : l.foldr (insG f) [] = l.mergeSort le :=
  let ⟨h1, h2⟩ := isort_ok h hf
  PySem.W.sort_unique h h1 h2
end
theorem insD_eq (x : D) : ∀ l : List D, insD x l = insG D.ltb x l
  | [] => rfl
  | y :: r => by unfold insD insG; rw [insD_eq x r]
theorem sortD_eq : ∀ l : List D, sortD l = l.foldr (insG D.ltb) []
  | [] => rfl
  | x :: r => by
    show insD x (sortD r) = insG D.ltb x (r.foldr (insG D.ltb) [])
    rw [insD_eq, sortD_eq r]
theorem dataLe_total : PySem.W.TotalLe (PySem.W.dataLe false toP) := PySem.W.sortLe_total _ _ _
theorem sortD_merge {ds : List D} (ha : ∀ a ∈ ds, ∀ b ∈ ds, D.alike a b = true) : sortD ds = ds.mergeSort (PySem.W.dataLe false toP) := by
  rw [sortD_eq]
  refine isort_eq dataLe_total fun a h1 b h2 => ?_
  rw [PySem.W.dataLe_eq]
  show (!PySem.W.dataLt (toP b) (toP a)) = _
  rw [ltb_toP b a (ha b h2 a h1)]
theorem sortD_mem {x : D} {ds : List D} : x ∈ sortD ds ↔ x ∈ ds := by rw [sortD_eq]; exact isort_mem
theorem sortable_iff {ds : List D} (h : sortable ds = true) : D.nodcts ds = true ∧ D.depths ds ≤ 60 ∧ (∀ a ∈ ds, ∀ b ∈ ds, D.alike a b = true) ∧ ((∀ a ∈ ds, a.isTup = true) ∨ ∀ a ∈ ds, a.noTup = true) := by
  unfold sortable at h
  simp only [Bool.and_eq_true, Bool.or_eq_true, decide_eq_true_eq, List.all_eq_true] at h
  exact ⟨h.1.1.1, h.1.1.2, h.1.2, h.2⟩
theorem nodct_mem : ∀ {ds : List D}, D.nodcts ds = true → ∀ d ∈ ds, d.nodct = true
  | [], _, _, h => by cases h
  | a :: as, p, d, h => by
    simp only [D.nodcts, Bool.and_eq_true] at p
    rcases List.mem_cons.mp h with rfl | h
    · exact p.1
    · exact nodct_mem p.2 d h
theorem depth_mem : ∀ {ds : List D} {n : Nat}, D.depths ds ≤ n → ∀ d ∈ ds, d.depth ≤ n
  | [], _, _, _, h => by cases h
  | a :: as, n, p, d, h => by
    simp only [D.depths] at p
    rcases List.mem_cons.mp h with rfl | h
    · omega
    · exact depth_mem (n := n) (by omega) d h
section
variable {X : Cx} {K : PySem.W.Frag} {M : Addr → Prop} {H : Hp}
theorem rpA_each : ∀ {vs : List V} {ds : List D} {us : List Value}, RpA K M H vs ds → Vals vs us → PySem.W.EachIs (fun u d => ∃ x, RelV x u ∧ Rp K M H x d) us ds
  | _, _, _, .nil, .nil => .nil
  | _, _, _, .cons h t, .cons r s => .cons ⟨_, r, h⟩ (rpA_each t s)
theorem each_rpA : ∀ {ds : List D} {us : List Value}, PySem.W.EachIs (fun u d => ∃ x, RelV x u ∧ Rp K M H x d) us ds → ∃ vs, RpA K M H vs ds ∧ Vals vs us
  | _, _, .nil => ⟨[], .nil, .nil⟩
  | _, _, .cons ⟨x, r, h⟩ t => by
    obtain ⟨vs, h1, h2⟩ := each_rpA t
    exact ⟨x :: vs, .cons h h1, .cons r h2⟩
theorem each_memD {us : List Value} {ds : List D} {Rr : Value → D → Prop} : PySem.W.EachIs Rr us ds → PySem.W.EachIs (fun u d => Rr u d ∧ d ∈ ds) us ds := fun h => by
  induction h with
  | nil => exact .nil
  | cons h t ih => exact .cons ⟨h, List.mem_cons_self⟩ (ih.mono fun _ _ q => ⟨q.1, List.mem_cons_of_mem _ q.2⟩)
theorem toPs_map : ∀ ds : List D, toPs ds = ds.map toP
  | [] => rfl
  | d :: ds => by rw [toPs, List.map_cons, toPs_map ds]
theorem sortable_toP {ds : List D} (h : sortable ds = true) : PySem.W.AllAlike (ds.map toP) ∧ PySem.W.Sortable (ds.map toP) := by
  obtain ⟨h1, h2, h3, h4⟩ := sortable_iff h
  refine ⟨fun d hd e he => ?_, ?_⟩
  · obtain ⟨a, ha, rfl⟩ := List.mem_map.mp hd
    obtain ⟨b, hb, rfl⟩ := List.mem_map.mp he
    exact alike_toP a b (h3 a ha b hb)
  · rcases h4 with h4 | h4
    · refine .inl fun d hd => ?_
      obtain ⟨a, ha, rfl⟩ := List.mem_map.mp hd
      have := h4 a ha
      cases a with
      | tup l =>
        cases l with
        | nil => simp [D.isTup] at this
        | cons x r => exact ⟨toP x, toPs r, by simp [toP, toPs]⟩
      | _ => simp [D.isTup] at this
    · refine .inr fun d hd => ?_
      obtain ⟨a, ha, rfl⟩ := List.mem_map.mp hd
      have := h4 a ha
      cases a <;> first | (simp [D.noTup] at this; done) | simp [toP]
theorem cad_sorted (hu : X.A.units + 65 < cLine) : CallR X (.builtin "sorted") (arD X.K (dBi .sorted)) := by
  intro pins s σ H xs us Q I rx ⟨B, ss, vs, ds, r, hR, hx, hg, hQ⟩
  cases hx with
  | nil => cases hg
  | cons h1 h2 =>
    cases h2 with
    | cons _ _ => rename_i d1 _ _ _ _ _ _; cases d1 <;> cases hg
    | nil =>
      rename_i d
      cases d with
      | lst l =>
        simp only [dBi] at hg
        by_cases hs : sortable l = true
        · simp only [dSorted, hs, if_true, Option.map_some] at hg
          cases hg
          obtain ⟨p, ys, rfl, g1, g2, g3⟩ := h1.lstV
          obtain ⟨its, rv, hl, hz⟩ := I.list (.inl (.inl g1))
          rw [Vals.ref1 rx]
          obtain ⟨k1, k2, k3, k4⟩ := sortable_iff hs
          obtain ⟨k5, k6⟩ := sortable_toP hs
          have e1 := rpA_each g3 rv
          have e2 : PySem.W.EachIs (fun v b => ∃ as, Reads s.heap v (toP b) as) its l := (each_memD e1).mono fun u d ⟨⟨x, h1, h2⟩, h3⟩ => Dp.rd I (nodct_mem k1 d h3) (.rp h2) h1
          refine PySem.W.sorted_data (R := fun u d => ∃ x, RelV x u ∧ Rp X.K (Mt B.Z ss vs) H x d) (enc := toP) hl.isList e1 e2 k5 k6 (by rw [← g3.len]; exact hz) (fun b hb => ?_) fun out ho he => ?_
          · rw [depth_toP b (nodct_mem k1 b hb)]
            have := depth_mem k2 b hb
            omega
          · rw [← sortD_merge k3] at he
            obtain ⟨zs, h3, h4⟩ := each_rpA he
            obtain ⟨ep, he'⟩ := PyProof.Rows.sortedAll_at s.heap its out.toArray
            have hlen : zs.length ≤ sizeLine := by rw [h4.length, ho, ← g3.len]; exact hz
            exact ⟨.ref _, upd H (s.heap.objs.size + 1) (.lst zs), I.laid (t' := s.toks) (fun _ _ => PyProof.Rows.sortedAll_old) (Nat.le_succ _) ⟨hlen, out, ep, h4, he'⟩, rfl, fin_lst hR h3 hQ _ (I.hok.fresh (Nat.le_succ _))⟩
        · simp only [dSorted, hs] at hg; cases hg
      | _ => cases hg
theorem rpA1 {xs : List V} {d : D} (h : RaA K M H xs [d]) : ∃ x, xs = [x] ∧ Ra K M H x d := by
  cases h with | cons h t => cases t; exact ⟨_, rfl, h⟩
theorem rpA2 {xs : List V} {d e : D} (h : RaA K M H xs [d, e]) : ∃ x y, xs = [x, y] ∧ Ra K M H x d ∧ Ra K M H y e := by
  cases h with | cons h t => cases t with | cons h' t => cases t; exact ⟨_, _, rfl, h, h'⟩
theorem one_of_len {ds : List D} {r : Rv} (h : dBi .len ds = some r) : ∃ d, ds = [d] := by
  cases ds with
  | nil => cases h
  | cons d t => cases t with
    | nil => exact ⟨d, rfl⟩
    | cons _ _ => cases d <;> cases h
theorem cad_len : CallR X (.builtin "len") (arD X.K (dBi .len)) := by
  intro pins s σ H xs us Q I rx ⟨B, ss, vs, ds, r, hR, hx, hg, hQ⟩
  obtain ⟨d, rfl⟩ := one_of_len hg
  obtain ⟨x, rfl, h1⟩ := rpA1 hx
  cases d with
  | str l =>
    simp only [dBi] at hg
    by_cases hz : lineOk l.length = true
    · rw [if_pos hz] at hg
      cases hg
      rw [h1.strV] at rx
      refine call_len_str pins s σ H _ us Q I rx ⟨mkS l, rfl, by rw [mkS_len]; exact lineOk_iff hz, ?_⟩
      rw [mkS_len]
      exact fin_val hR (.int _) hQ
    · rw [if_neg hz] at hg; cases hg
  | lst l =>
    cases hg
    obtain ⟨p, ys, rfl, g1, g2, g3⟩ := h1.lstV
    refine call_len_seq pins s σ H _ us Q I rx ⟨p, ys, rfl, .inl (.inl (.inl g1)), ?_⟩
    rw [g3.len]
    exact fin_val hR (.int _) hQ
  | tup l =>
    cases hg
    obtain ⟨p, ys, rfl, g1, g3⟩ := h1.tupV
    refine call_len_seq pins s σ H _ us Q I rx ⟨p, ys, rfl, .inr g1, ?_⟩
    rw [g3.len]
    exact fin_val hR (.int _) hQ
  | _ => cases hg
theorem cad_abs : CallR X (.builtin "abs") (arD X.K (dBi .abs)) := by
  intro pins s σ H xs us Q I rx ⟨B, ss, vs, ds, r, hR, hx, hg, hQ⟩
  match ds, hg, hx with
  | [.int i], hg, hx =>
    cases hg
    obtain ⟨x, rfl, h1⟩ := rpA1 hx
    rw [h1.intV] at rx
    exact call_abs pins s σ H _ us Q I rx ⟨i, rfl, fin_val hR (.int _) hQ⟩
theorem cad_int : CallR X (.type "int") (arD X.K (dBi .int)) := by
  intro pins s σ H xs us Q I rx ⟨B, ss, vs, ds, r, hR, hx, hg, hQ⟩
  match ds, hg, hx with
  | [.int i], hg, hx =>
    cases hg
    obtain ⟨x, rfl, h1⟩ := rpA1 hx
    rw [h1.intV] at rx
    exact call_int1 pins s σ H _ us Q I rx (.inl ⟨i, rfl, fin_val hR (.int _) hQ⟩)
  | [.bl i], hg, hx =>
    cases hg
    obtain ⟨x, rfl, h1⟩ := rpA1 hx
    rw [h1.blV] at rx
    exact call_int1 pins s σ H _ us Q I rx (.inr ⟨i, rfl, fin_val hR (.int _) hQ⟩)
theorem cad_min2 (hc : X.calm = true) : CallR X (.builtin "min") (arD X.K (dBi .min2)) := by
  intro pins s σ H xs us Q I rx ⟨B, ss, vs, ds, r, hR, hx, hg, hQ⟩
  match ds, hg, hx with
  | [.int i, .int j], hg, hx =>
    cases hg
    obtain ⟨x, y, rfl, h1, h2⟩ := rpA2 hx
    rw [h1.intV, h2.intV] at rx
    exact call_min2 hc pins s σ H _ us Q I rx ⟨i, j, rfl, fin_val hR (.int _) hQ⟩
theorem cad_max2 (hc : X.calm = true) : CallR X (.builtin "max") (arD X.K (dBi .max2)) := by
  intro pins s σ H xs us Q I rx ⟨B, ss, vs, ds, r, hR, hx, hg, hQ⟩
  match ds, hg, hx with
  | [.int i, .int j], hg, hx =>
    cases hg
    obtain ⟨x, y, rfl, h1, h2⟩ := rpA2 hx
    rw [h1.intV, h2.intV] at rx
    exact call_max2 hc pins s σ H _ us Q I rx ⟨i, j, rfl, fin_val hR (.int _) hQ⟩
theorem cad_tuple : CallR X (.type "tuple") (arD X.K (dBi .tuple)) := by
  intro pins s σ H xs us Q I rx ⟨B, ss, vs, ds, r, hR, hx, hg, hQ⟩
  match ds, hg, hx with
  | [.lst l], hg, hx =>
    cases hg
    obtain ⟨x, rfl, h1⟩ := rpA1 hx
    obtain ⟨p, ys, rfl, g1, g2, g3⟩ := h1.lstV
    exact call_tuple_of pins s σ H _ us Q I rx ⟨p, ys, rfl, .inl ⟨.inl (.inl g1), fin_tup hR g3 hQ⟩⟩
  | [.tup l], hg, hx =>
    cases hg
    obtain ⟨x, rfl, h1⟩ := rpA1 hx
    have h1' := h1.tupR
    obtain ⟨p, ys, rfl, g1, g3⟩ := h1.tupV
    exact call_tuple_of pins s σ H _ us Q I rx ⟨p, ys, rfl, .inr ⟨g1, fin_val hR h1' hQ⟩⟩
theorem cad_list : CallR X (.type "list") (arD X.K (dBi .list)) := by
  intro pins s σ H xs us Q I rx ⟨B, ss, vs, ds, r, hR, hx, hg, hQ⟩
  match ds, hg, hx with
  | [.lst l], hg, hx =>
    cases hg
    obtain ⟨x, rfl, h1⟩ := rpA1 hx
    obtain ⟨p, ys, rfl, g1, g2, g3⟩ := h1.lstV
    exact call_list_of pins s σ H _ us Q I rx ⟨p, ys, rfl, .inl (.inl (.inl g1)), fin_lst hR g3 hQ⟩
  | [.tup l], hg, hx =>
    cases hg
    obtain ⟨x, rfl, h1⟩ := rpA1 hx
    obtain ⟨p, ys, rfl, g1, g3⟩ := h1.tupV
    exact call_list_of pins s σ H _ us Q I rx ⟨p, ys, rfl, .inr g1, fin_lst hR g3 hQ⟩
theorem ints_of : ∀ {ds : List D} {xs : List V} {ns : List Int}, dInts ds = some ns → RpA K M H xs ds → xs = ns.map V.int
  | [], _, ns, h, .nil => by cases h; rfl
  | .int i :: ds, _, ns, h, .cons h1 h2 => by
    simp only [dInts] at h
    cases q : dInts ds with
    | none => rw [q] at h; cases h
    | some ms =>
      rw [q] at h
      cases h
      rw [h1.intV, ints_of q h2]; rfl
  | .non :: _, _, _, h, _ => by cases h
  | .bl _ :: _, _, _, h, _ => by cases h
  | .str _ :: _, _, _, h, _ => by cases h
  | .lst _ :: _, _, _, h, _ => by cases h
  | .tup _ :: _, _, _, h, _ => by cases h
  | .dct _ :: _, _, _, h, _ => by cases h
theorem cad_sum (hc : X.calm = true) : CallR X (.builtin "sum") (arD X.K (dBi .sum)) := by
  intro pins s σ H xs us Q I rx ⟨B, ss, vs, ds, r, hR, hx, hg, hQ⟩
  match ds, hg, hx with
  | [.lst l], hg, hx =>
    simp only [dBi] at hg
    cases q : dInts l with
    | none => rw [q] at hg; cases hg
    | some ns =>
      rw [q] at hg
      cases hg
      obtain ⟨x, rfl, h1⟩ := rpA1 hx
      obtain ⟨p, ys, rfl, g1, g2, g3⟩ := h1.lstV
      have e := ints_of q g3
      subst e
      exact cr_sum hc pins s σ H _ us Q I rx ⟨p, ns, rfl, .inl (.inl g1), fin_val hR (.int _) hQ⟩
def biV : Bi → Value
  | .len => .builtin "len" | .abs => .builtin "abs" | .int => .type "int" | .min2 => .builtin "min" | .max2 => .builtin "max" | .tuple => .type "tuple" | .list => .type "list" | .sorted => .builtin "sorted" | .sum => .builtin "sum" | .join => .none
def biN : Bi → String
  | .len => "len" | .abs => "abs" | .int => "int" | .min2 => "min" | .max2 => "max" | .tuple => "tuple" | .list => "list" | .sorted => "sorted" | .sum => "sum" | .join => ""
theorem cad (hu : X.A.units + 65 < cLine) (hc : X.calm = true) : ∀ b : Bi, b ≠ .join → CallR X (biV b) (arD X.K (dBi b))
  | .len, _ => cad_len | .abs, _ => cad_abs | .int, _ => cad_int | .min2, _ => cad_min2 hc | .max2, _ => cad_max2 hc | .tuple, _ => cad_tuple | .list, _ => cad_list | .sorted, _ => cad_sorted hu | .sum, _ => cad_sum hc | .join, h => (h rfl).elim
theorem biB : ∀ b : Bi, b ≠ .join → bootBuiltins (biN b) = some (biV b)
  | .len, _ => by decide +kernel | .abs, _ => by decide +kernel | .int, _ => by decide +kernel | .min2, _ => by decide +kernel | .max2, _ => by decide +kernel | .tuple, _ => by decide +kernel | .list, _ => by decide +kernel | .sorted, _ => by decide +kernel | .sum, _ => by decide +kernel | .join, h => (h rfl).elim
end
end Gw

set_option Elab.async false
set_option linter.all false
set_option maxRecDepth 100000
set_option maxHeartbeats 1000000
/-! The value layer, part 7: does the small syntax tell a program's text. -/
namespace Gw
open PySem L2

/-! ### shapes of the text -/
def asName : Expr → Option Str
  | .Name x _ => some x
  | _ => none
theorem asName_some {e : Expr} {x : Str} (h : asName e = some x) : ∃ p, e = .Name x p := by
  cases e <;> simp [asName] at h
  subst h; exact ⟨_, rfl⟩
def asConst : Expr → Option Const
  | .Constant c _ _ => some c
  | _ => none
theorem asConst_some {e : Expr} {x : Const} (h : asConst e = some x) : ∃ k p, e = .Constant x k p := by
  cases e <;> simp [asConst] at h
  subst h; exact ⟨_, _, rfl⟩
def asBin : Expr → Option (Expr × Operator × Expr)
  | .BinOp l o r _ => some (l, o, r)
  | _ => none
theorem asBin_some {e l r : Expr} {o : Operator} (h : asBin e = some (l, o, r)) : ∃ p, e = .BinOp l o r p := by
  cases e <;> simp [asBin] at h
  obtain ⟨rfl, rfl, rfl⟩ := h; exact ⟨_, rfl⟩
def asUn : Expr → Option (UnaryOp × Expr)
  | .UnaryOp o r _ => some (o, r)
  | _ => none
theorem asUn_some {e r : Expr} {o : UnaryOp} (h : asUn e = some (o, r)) : ∃ p, e = .UnaryOp o r p := by
  cases e <;> simp [asUn] at h
  obtain ⟨rfl, rfl⟩ := h; exact ⟨_, rfl⟩
def asCmp : Expr → Option (Expr × List CmpOp × List Expr)
  | .Compare l os rs _ => some (l, os, rs)
  | _ => none
theorem asCmp_some {e l : Expr} {os : List CmpOp} {rs : List Expr} (h : asCmp e = some (l, os, rs)) : ∃ p, e = .Compare l os rs p := by
  cases e <;> simp [asCmp] at h
  obtain ⟨rfl, rfl, rfl⟩ := h; exact ⟨_, rfl⟩
def peel : Expr → Expr
  | .BoolOp _ [x] _ => x
  | e => e
def asBool : Expr → Option (BoolOp × Expr × Expr)
  | .BoolOp op (x :: y :: rest) pos => some (op, x, .BoolOp op (y :: rest) pos)
  | _ => none
theorem asBool_some {e x z : Expr} {op : BoolOp} (h : asBool e = some (op, x, z)) : ∃ y rest p, e = .BoolOp op (x :: y :: rest) p ∧ z = .BoolOp op (y :: rest) p := by
  cases e with
  | BoolOp o vs p =>
    cases vs with
    | nil => simp [asBool] at h
    | cons a t => cases t with
      | nil => simp [asBool] at h
      | cons b t =>
        simp [asBool] at h
        obtain ⟨rfl, rfl, rfl⟩ := h
        exact ⟨_, _, _, rfl, rfl⟩
  | _ => simp [asBool] at h
def asIf : Expr → Option (Expr × Expr × Expr)
  | .IfExp c a b _ => some (c, a, b)
  | _ => none
theorem asIf_some {e c a b : Expr} (h : asIf e = some (c, a, b)) : ∃ p, e = .IfExp c a b p := by
  cases e <;> simp [asIf] at h
  obtain ⟨rfl, rfl, rfl⟩ := h; exact ⟨_, rfl⟩
def asTup : Expr → Option (List Expr)
  | .Tuple es _ _ => some es
  | _ => none
theorem asTup_some {e : Expr} {es : List Expr} (h : asTup e = some es) : ∃ k p, e = .Tuple es k p := by
  cases e <;> simp [asTup] at h
  subst h; exact ⟨_, _, rfl⟩
def asLst : Expr → Option (List Expr)
  | .List es _ => some es
  | _ => none
theorem asLst_some {e : Expr} {es : List Expr} (h : asLst e = some es) : ∃ p, e = .List es p := by
  cases e <;> simp [asLst] at h
  subst h; exact ⟨_, rfl⟩
def isSlice : Expr → Bool
  | .Slice _ _ _ _ => true
  | _ => false
def asSub : Expr → Option (Expr × Expr)
  | .Subscript a b _ => if isSlice b then none else some (a, b)
  | _ => none
theorem asSub_some {e a b : Expr} (h : asSub e = some (a, b)) : ∃ p, e = .Subscript a b p ∧ isSlice b = false := by
  cases e <;> simp [asSub] at h
  obtain ⟨h1, rfl, rfl⟩ := h
  exact ⟨_, rfl, h1⟩
def asSli : Expr → Option (Expr × Option Expr × Option Expr)
  | .Subscript a (.Slice lo hi none _) _ => some (a, lo, hi)
  | _ => none
theorem asSli_some {e a : Expr} {lo hi : Option Expr} (h : asSli e = some (a, lo, hi)) : ∃ p2 p, e = .Subscript a (.Slice lo hi none p2) p := by
  cases e with
  | Subscript a b p =>
    cases b with
    | Slice l u s p2 =>
      cases s with
      | none =>
        simp [asSli] at h
        obtain ⟨rfl, rfl, rfl⟩ := h
        exact ⟨_, _, rfl⟩
      | some _ => simp [asSli] at h
    | _ => simp [asSli] at h
  | _ => simp [asSli] at h
def asCall : Expr → Option (Str × List Expr)
  | .Call (.Name x _) args [] _ => some (x, args)
  | _ => none
theorem asCall_some {e : Expr} {x : Str} {es : List Expr} (h : asCall e = some (x, es)) : ∃ p pos, e = .Call (.Name x p) es [] pos := by
  cases e with
  | Call f args kws pos =>
    cases f with
    | Name y p =>
      cases kws with
      | nil =>
        simp [asCall] at h
        obtain ⟨rfl, rfl⟩ := h
        exact ⟨_, _, rfl⟩
      | cons _ _ => simp [asCall] at h
    | _ => simp [asCall] at h
  | _ => simp [asCall] at h
def isCallE : Expr → Bool
  | .Call _ _ _ _ => true
  | _ => false
/-- o.m(args) on one line, o not a call -/
def asMeth : Expr → Option (Expr × Str × List Expr)
  | .Call (.Attribute o m apos) args [] pos => if (apos.endLine == pos.line) && !isCallE o then some (o, m, args) else none
  | _ => none
theorem asMeth_some {e o : Expr} {m : Str} {es : List Expr} (h : asMeth e = some (o, m, es)) : ∃ apos pos, e = .Call (.Attribute o m apos) es [] pos ∧ (apos.endLine == pos.line) = true ∧ isCallE o = false := by
  cases e with
  | Call f args kws pos =>
    cases f with
    | Attribute o' m' apos =>
      cases kws with
      | nil =>
        simp only [asMeth] at h
        by_cases hc : ((apos.endLine == pos.line) && !isCallE o') = true
        · rw [if_pos hc] at h
          rw [Bool.and_eq_true] at hc
          simp only [Option.some.injEq, Prod.mk.injEq] at h
          obtain ⟨rfl, rfl, rfl⟩ := h
          exact ⟨_, _, rfl, hc.1, by simpa using hc.2⟩
        · rw [if_neg hc] at h; cases h
      | cons _ _ => simp [asMeth] at h
    | _ => simp [asMeth] at h
  | _ => simp [asMeth] at h
structure Comp1 where
  elt : Expr
  tg : Expr
  iter : Expr
  ifs : List Expr
  scope : Scope
def asLC : Expr → Option Comp1
  | .ListComp elt [⟨tg, iter, ifs, 0⟩] scope _ => some ⟨elt, tg, iter, ifs, scope⟩
  | _ => none
theorem asLC_some {e : Expr} {c : Comp1} (h : asLC e = some c) : ∃ pos, e = .ListComp c.elt [⟨c.tg, c.iter, c.ifs, 0⟩] c.scope pos := by
  cases e with
  | ListComp elt gs scope pos =>
    unfold asLC at h
    split at h
    · rename_i heq
      cases heq
      cases h
      exact ⟨_, rfl⟩
    · cases h
  | _ => simp [asLC] at h
structure Comp2 where
  elt : Expr
  tg : Expr
  iter : Expr
  ifs : List Expr
  tg' : Expr
  iter' : Expr
  ifs' : List Expr
  scope : Scope
def asLC2 : Expr → Option Comp2
  | .ListComp elt [⟨tg, iter, ifs, 0⟩, ⟨tg', iter', ifs', 0⟩] scope _ => some ⟨elt, tg, iter, ifs, tg', iter', ifs', scope⟩
  | _ => none
theorem asLC2_some {e : Expr} {c : Comp2} (h : asLC2 e = some c) : ∃ pos, e = .ListComp c.elt [⟨c.tg, c.iter, c.ifs, 0⟩, ⟨c.tg', c.iter', c.ifs', 0⟩] c.scope pos := by
  cases e with
  | ListComp elt gs scope pos =>
    unfold asLC2 at h
    split at h
    · rename_i heq
      cases heq
      cases h
      exact ⟨_, rfl⟩
    · cases h
  | _ => simp [asLC2] at h
def asGen : Expr → Option Comp1
  | .GeneratorExp elt [⟨tg, iter, ifs, 0⟩] scope _ => some ⟨elt, tg, iter, ifs, scope⟩
  | _ => none
theorem asGen_some {e : Expr} {c : Comp1} (h : asGen e = some c) : ∃ pos, e = .GeneratorExp c.elt [⟨c.tg, c.iter, c.ifs, 0⟩] c.scope pos := by
  cases e with
  | GeneratorExp elt gs scope pos =>
    unfold asGen at h
    split at h
    · rename_i heq
      cases heq
      cases h
      exact ⟨_, rfl⟩
    · cases h
  | _ => simp [asGen] at h
def asSC : Expr → Option Comp1
  | .SetComp elt [⟨tg, iter, ifs, 0⟩] scope _ => some ⟨elt, tg, iter, ifs, scope⟩
  | _ => none
theorem asSC_some {e : Expr} {c : Comp1} (h : asSC e = some c) : ∃ pos, e = .SetComp c.elt [⟨c.tg, c.iter, c.ifs, 0⟩] c.scope pos := by
  cases e with
  | SetComp elt gs scope pos =>
    unfold asSC at h
    split at h
    · rename_i heq
      cases heq
      cases h
      exact ⟨_, rfl⟩
    · cases h
  | _ => simp [asSC] at h
def isStar : Expr → Bool
  | .Starred _ _ => true
  | _ => false
def isSetE : Expr → Bool
  | .Set _ _ _ => true
  | _ => false

/-! ### the checker -/
/-- what the module's names are: the defs, the constants -/
structure GI where
  fs : List Str
  cs : List Str
  g : Bool := false
/-- no generator expressions within -/
def GI.off (gi : GI) : GI := { gi with g := false }
def GI.on (gi : GI) (b : Bool) : GI := { gi with g := b }
def noCell (sc : Scope) : Bool := sc.names.all fun y => match y.2 with
  | .cell => false
  | _ => true
def dotLoc (sc : Scope) : Bool := match sc.names.lookup (".0" : Str) with
  | some .local => true
  | _ => false
def genC (N : List Str) (sc scope : Scope) (own : List (Str × Nat)) : Bool := blkC N sc scope own && !scope.isCoroutine && noCell scope && dotLoc scope
def gnN (stop : Bool) : String := if stop then "any" else "all"
def Gk.stop : Gk → Bool
  | .any => true
  | _ => false
def isVis (sc : Scope) (x : Str) : Bool := match sc.names.lookup x with
  | some .local => true
  | some .cell => true
  | some .free => true
  | _ => false
def isLoc (sc : Scope) (x : Str) : Bool := match sc.names.lookup x with
  | some .local => true
  | some .cell => true
  | _ => false
def isGl (sc : Scope) (x : Str) : Bool := match sc.names.lookup x with
  | some .globalImplicit => true
  | _ => false
def okC : D → Const → Bool
  | .non, .none => true
  | .bl a, .bool b => a == b
  | .int a, .int b => a == b
  | .str l, .str s => decide (s = mkS l)
  | _, _ => false
def okV (N : List Str) (sc : Scope) (i : Nat) (x : Expr) : Bool := match asName x with
  | some y => decide (N[i]? = some y) && isVis sc y
  | none => false
mutual
def okT (N : List Str) (sc : Scope) : T → Expr → Bool
  | .nm i, x => match asName x with
    | some y => decide (N[i]? = some y) && isLoc sc y
    | none => false
  | .tu ts, x => match asTup x with
    | some es => okTs N sc ts es
    | none => false
def okTs (N : List Str) (sc : Scope) : List T → List Expr → Bool
  | [], [] => true
  | t :: ts, x :: xs => okT N sc t x && okTs N sc ts xs
  | _, _ => false
end
def ownOf (N : List Str) (is : List Nat) : List (Str × Nat) := is.map fun i => (N.getD i ("" : Str), i)
mutual
def okE (gi : GI) (N : List Str) (sc : Scope) : E → Expr → Bool
  | .nop, _ => true
  | .var i, x => okV N sc i x
  | .cst d, x => match asConst x with
    | some c => okC d c
    | none => false
  | .glb g, x => match asName x with
    | some y => decide (gi.cs[g]? = some y) && isGl sc y
    | none => false
  | .bin op a b, x => match asBin x with
    | some (l, o, r) => decide (o = bopP op) && okE gi N sc a l && okE gi N sc b r
    | none => false
  | .neg a, x => match asUn x with
    | some (o, r) => decide (o = .USub) && okE gi N sc a r
    | none => false
  | .cmp op a b, x => match asCmp x with
    | some (l, [o], [r]) => decide (o = copP op) && !isSetE r && okE gi N sc a l && okE gi N sc b r
    | _ => false
  | .chn op op' a b c, x => match asCmp x with
    | some (l, [o, o'], [m, r]) => decide (o = copP op) && decide (o' = copP op') && !isSetE m && !isSetE r && okE gi N sc a l && okE gi N sc b m && okE gi N sc c r
    | _ => false
  | .and a b, x => match asBool x with
    | some (o, l, r) => decide (o = .And) && okE gi N sc a l && okE gi N sc b (peel r)
    | none => false
  | .or a b, x => match asBool x with
    | some (o, l, r) => decide (o = .Or) && okE gi N sc a l && okE gi N sc b (peel r)
    | none => false
  | .not a, x => match asUn x with
    | some (o, r) => decide (o = .Not) && okE gi N sc a r
    | none => false
  | .ite c a b, x => match asIf x with
    | some (y, l, r) => okE gi N sc c y && okE gi N sc a l && okE gi N sc b r
    | none => false
  | .tup es, x => match asTup x with
    | some l => okEs gi N sc es l
    | none => false
  | .lst es, x => match asLst x with
    | some l => okEs gi N sc es l
    | none => false
  | .idx a b, x => match asSub x with
    | some (l, r) => okE gi N sc a l && okE gi N sc b r
    | none => false
  | .idv i b, x => match asSub x with
    | some (l, r) => okV N sc i l && okE gi N sc b r
    | none => false
  | .sli a lo hi, x => match asSli x with
    | some (l, m, r) => okE gi N sc a l &&
        (match m with
          | none => lo.isNop
          | some y => !lo.isNop && okE gi N sc lo y) &&
        (match r with
          | none => hi.isNop
          | some y => !hi.isNop && okE gi N sc hi y)
    | none => false
  | .lenv i, x => match asCall x with
    | some (f, [y]) => decide (f = ("len" : Str)) && isGl sc f && okV N sc i y
    | _ => false
  | .inv op a i, x => match asCmp x with
    | some (l, [o], [r]) => decide (o = copP op) && okE gi N sc a l && okV N sc i r
    | _ => false
  | .cmv op i a, x => match asCmp x with
    | some (l, [o], [r]) => decide (o = copP op) && !isSetE r && okV N sc i l && okE gi N sc a r
    | _ => false
  | .bi b es, x => match asCall x with
    | some (f, l) => decide (b ≠ .join) && decide (f = (biN b : Str)) && isGl sc f && !l.isEmpty && okEs gi N sc es l
    | none => false
  | .joi a b, x => match asMeth x with
    | some (o, m, [y]) => decide (m = ("join" : Str)) && !isStar y && okE gi N sc a o && okE gi N sc b y
    | _ => false
  | .cal f es, x => match asCall x with
    | some (g, l) => decide (gi.fs[f]? = some g) && isGl sc g && !l.isEmpty && okEs gi N sc es l
    | none => false
  | .car f i es, x => match asCall x with
    | some (g, y :: l) => decide (gi.fs[f]? = some g) && isGl sc g && okV N sc i y && okEs gi N sc es l
    | _ => false
  | .lc elt t it c, x => match asLC x with
    | some z => blkC N sc z.scope (ownOf N t.slots) && okI gi N sc it z.iter z.tg && okT N z.scope t z.tg &&
        (match z.ifs with
          | [] => c.isNop
          | [y] => !c.isNop && okE gi N (relS z.scope sc) c y
          | _ => false) && okE gi N (relS z.scope sc) elt z.elt
    | none => false
  | .lc2 elt t it c t' it' c', x => match asLC2 x with
    | some z => blkC N sc z.scope (ownOf N (t.slots ++ t'.slots)) && okI gi N sc it z.iter z.tg && okT N z.scope t z.tg &&
        (match z.ifs with
          | [] => c.isNop
          | [y] => !c.isNop && okE gi N (relS z.scope sc) c y
          | _ => false) && okI gi N (relS z.scope sc) it' z.iter' z.tg' && okT N z.scope t' z.tg' &&
        (match z.ifs' with
          | [] => c'.isNop
          | [y] => !c'.isNop && okE gi N (relS z.scope sc) c' y
          | _ => false) && okE gi N (relS z.scope sc) elt z.elt
    | none => false
  | .gen k elt t it c, x => match asCall x with
    | some (f, [y]) => gi.g && decide (k ≠ .sum) && decide (f = ((gnN k.stop : String) : Str)) && isGl sc f && (match asGen y with
      | some z => genC N sc z.scope (ownOf N t.slots) && (asLst z.iter).isNone && okI gi N sc it z.iter z.tg && okT N z.scope t z.tg &&
        (match z.ifs with
          | [] => c.isNop
          | [y] => !c.isNop && okE gi.off N z.scope c y
          | _ => false) && okE gi.off N z.scope elt z.elt
      | none => false)
    | _ => false
  | .srs elt t it c, x => match asCall x with
    | some (f, [y]) => decide (f = ("sorted" : Str)) && isGl sc f && (match asSC y with
      | some z => blkC N sc z.scope (ownOf N t.slots) && okI gi N sc it z.iter z.tg && okT N z.scope t z.tg &&
        (match z.ifs with
          | [] => c.isNop
          | [y] => !c.isNop && okE gi N (relS z.scope sc) c y
          | _ => false) && okE gi N (relS z.scope sc) elt z.elt
      | none => false)
    | _ => false
/-- what is walked; tg: the target, for the pairs of enumerate and zip -/
def okI (gi : GI) (N : List Str) (sc : Scope) : I → Expr → Expr → Bool
  | .frz e, x, _ => !isSetE x && okE gi N sc e x
  | .mov i, x, _ => okV N sc i x
  | .rng es, x, _ => match asCall x with
    | some (f, l) => decide (f = ("range" : Str)) && isGl sc f && decide (l.length ≤ 3) && okEs gi N sc es l
    | none => false
  | .enm e, x, _ => false
  | .zip a b, x, _ => false
  | .rev e, x, _ => match asCall x with
    | some (f, [l]) => decide (f = ("reversed" : Str)) && isGl sc f && !isStar l && okE gi N sc e l
    | _ => false
def okEs (gi : GI) (N : List Str) (sc : Scope) : Es → List Expr → Bool
  | .nil, l => l.isEmpty
  | .cons e es, l => match l with
    | x :: r => !isStar x && okE gi N sc e x && okEs gi N sc es r
    | [] => false
end
end Gw

set_option Elab.async false
set_option linter.all false
set_option maxRecDepth 100000
set_option maxHeartbeats 2000000
/-! The value layer, part 8: what the checker accepts, runs as the small syntax says. -/
namespace Gw
open PySem L2

def onlyRef : Sl → Sl
  | .ref d => .ref d
  | _ => .no
/-- a def's promise -/
def spF (K : PySem.W.Frag) (tabs : List Addr) (F : Fn) : Sp := fun vs H Q _ => ∃ (B : Bs) (ps : List Sl) (r : Rv) (ps' : List Sl),
  B.H0 = H ∧ B.tabs = tabs ∧ R K B ps (vs.map some) H ∧ (∀ s ∈ ps, ∀ d, s ≠ .own d) ∧ F ps = .ok (r, ps') ∧
  ∀ v H', R K B (ps'.map onlyRef ++ [r.sl]) (vs.map some ++ [some v]) H' → Q v H'
def bltNames : List Str := ["len", "abs", "int", "min", "max", "tuple", "list", "sorted", "sum", "range", "reversed", "all", "any", "enumerate", "zip", "isinstance", "bool", "dict", "set", "str"]
structure XOk (gi : GI) (G : Glo) (tabs : List Addr) (N : List Str) (sc ts : Scope) (k : Nat) (X : Cx) : Prop where
  hN : X.N = N
  sc : X.env.scope = sc
  calm : X.calm = true
  nd : N.Nodup
  dbg : ∀ x ∈ N, (x == ("__debug__" : Str)) = false ∧ (x == ("__classdict__" : Str)) = false
  room : Room k X.A
  roomG : gi.g = true → Room (k + 1) X.A
  code : gi.g = true → ∃ c P : Addr, X.env.code = .ref c ∧ GxR.TabB X.base X.mg c P ∧ P ∈ tabs
  blt : ∀ x ∈ bltNames, X.mg x = none
  fn : ∀ (f : Nat) (nm : Str), gi.fs[f]? = some nm → (nm == ("__debug__" : Str)) = false ∧ ∃ (a : Addr) (fd : FuncData) (ps : List Str), X.mg nm = some (.ref a) ∧ PySem.W.keepIn X.K (.ref a) = true ∧ Binds X.K fd ps [] ∧
    FnOk X.prog X.w X.K X.mg X.base CX0 k a fd ps (spF X.K tabs (G.fn f))
  cst : ∀ (g : Nat) (nm : Str) (d : D), gi.cs[g]? = some nm → G.cst g = some d → (nm == ("__debug__" : Str)) = false ∧ ∃ (u : Value) (v : V), X.mg nm = some u ∧ RelV v u ∧ ∀ M H, Rp X.K M H v d
  fnm : ∀ x, isLoc ts x = true → Loc X.env.scope x ∧ (X.fn x = true ∨ X.env.scope.names.lookup x = some .local)

def SE (tabs : List Addr) (X : Cx) (x : Expr) (F : Env → Res (Rv × Env)) : Prop := ∀ B : Bs, B.tabs = tabs → PE X x (tE X.K B F)
def ST (tabs : List Addr) (X : Cx) (x : Expr) (F : Env → Res (Rv × Env)) : Prop := ∀ B : Bs, B.tabs = tabs → PT X x (tTr X.K B F)
def SA (tabs : List Addr) (X : Cx) (x : List Expr) (F : Env → Res (List Rv × Env)) : Prop := ∀ B : Bs, B.tabs = tabs → PA X x (tAs X.K B F)

section
variable {gi : GI} {G : Glo} {tabs : List Addr} {N : List Str} {sc ts : Scope} {k : Nat} {X : Cx}
theorem XOk.hu (o : XOk gi G tabs N sc ts k X) : X.A.units + 65 < cLine := by have := o.room.un; omega
theorem isVis_iff {x : Str} (h : isVis sc x = true) : Vis sc x := by
  unfold isVis at h
  split at h
  · exact .inl (by assumption)
  · exact .inr (.inl (by assumption))
  · exact .inr (.inr (by assumption))
  · cases h
theorem isGl_iff {x : Str} (h : isGl sc x = true) : sc.names.lookup x = some .globalImplicit := by
  unfold isGl at h
  split at h
  · assumption
  · cases h
theorem isLoc_iff {x : Str} (h : isLoc sc x = true) : Loc sc x := by
  unfold isLoc at h
  split at h
  · exact .inl (by assumption)
  · exact .inr (by assumption)
  · cases h
/-- a name in its slot -/
theorem XOk.var (o : XOk gi G tabs N sc ts k X) {i : Nat} {x : Expr} (h : okV N sc i x = true) : PE X x (tVar i) := by
  unfold okV at h
  cases e : asName x with
  | none => rw [e] at h; cases h
  | some y =>
    rw [e] at h
    simp only [Bool.and_eq_true, decide_eq_true_eq] at h
    obtain ⟨p, rfl⟩ := asName_some e
    have hm : y ∈ N := List.mem_of_getElem? h.1
    obtain ⟨d1, d2⟩ := o.dbg y hm
    exact pe_var (by rw [o.hN]; exact h.1) (by rw [o.sc]; exact isVis_iff h.2) d1 d2
theorem XOk.gl (o : XOk gi G tabs N sc ts k X) {x : Str} (h : isGl sc x = true) : Gl X x := by
  show X.env.scope.names.lookup x = _
  rw [o.sc]; exact isGl_iff h

/-! ### slots within a whole state -/
theorem at_some {ρ : Env} {i : Nat} {s : Sl} (h : ρ.at i = s) (hs : s ≠ .no) : ρ[i]? = some s := by
  unfold Env.at at h
  cases e : ρ[i]? with
  | none => rw [e] at h; exact (hs h.symm).elim
  | some t => rw [e] at h; exact congrArg some h
theorem set_left {α : Type} {l m : List α} {i : Nat} {x : α} (h : i < l.length) : (l ++ m).set i x = l.set i x ++ m := by
  rw [List.set_append_left _ _ h]
theorem get_left {α : Type} {l m : List α} {i : Nat} (h : i < l.length) : (l ++ m)[i]? = l[i]? := List.getElem?_append_left h

theorem snd_var (o : XOk gi G tabs N sc ts k X) {i : Nat} {x : Expr} (h : okV N sc i x = true) : SE tabs X x (runE G (.var i)) := fun B _ => by
  refine (o.var h).imp fun σ H Q ⟨ρ, tt, vs, r, ρ', hR, hl, hF, hQ⟩ => ?_
  simp only [runE] at hF
  cases e : ρ.at i with
  | no => rw [e] at hF; cases hF
  | ref d => rw [e] at hF; cases hF
  | val d =>
    rw [e] at hF
    cases hF
    have g := at_some e (by intro z; cases z)
    obtain ⟨v, h1, h2⟩ := hR.val i d (getL g)
    have hi := lt_of_get g
    rw [get_left (by omega)] at h1
    exact ⟨v, h1, hQ v H (hR.push_val h2)⟩
  | own d =>
    rw [e] at hF
    cases hF
    have g := at_some e (by intro z; cases z)
    have hi := lt_of_get g
    have hR2 := hR.freeze (getL g)
    rw [set_left hi] at hR2
    obtain ⟨v, h1, h2⟩ := hR2.val i d (getL (List.getElem?_set_self hi))
    rw [get_left (by omega)] at h1
    exact ⟨v, h1, hQ v H (hR2.push_val h2)⟩
theorem okC_v {d : D} {c : Const} {kk : Nat} {p : Pos} (h : okC d c = true) : ∃ v, PE X (.Constant c kk p) (tC v) ∧ ∀ M H, Rp X.K M H v d := by
  cases d <;> cases c <;> simp [okC] at h
  · exact ⟨.non, pe_non, fun _ _ => .non⟩
  · subst h; exact ⟨.bl _, pe_bl, fun _ _ => .bl _⟩
  · subst h; exact ⟨.int _, pe_int, fun _ _ => .int _⟩
  · subst h; exact ⟨.str _, pe_str, fun _ _ => .str _⟩
theorem snd_cst {d : D} {x : Expr} (h : okE gi N sc (.cst d) x = true) : SE tabs X x (runE G (.cst d)) := fun B _ => by
  simp only [okE] at h
  cases e : asConst x with
  | none => rw [e] at h; cases h
  | some c =>
    rw [e] at h
    obtain ⟨kk, p, rfl⟩ := asConst_some e
    obtain ⟨v, h1, h2⟩ := okC_v (X := X) h
    refine h1.imp fun σ H Q ⟨ρ, tt, vs, r, ρ', hR, hl, hF, hQ⟩ => ?_
    simp only [runE] at hF
    cases hF
    exact hQ v H (hR.push_val (h2 _ _))
theorem snd_glb (o : XOk gi G tabs N sc ts k X) {g : Nat} {x : Expr} (h : okE gi N sc (.glb g) x = true) : SE tabs X x (runE G (.glb g)) := fun B _ => by
  simp only [okE] at h
  cases e : asName x with
  | none => rw [e] at h; cases h
  | some y =>
    rw [e] at h
    simp only [Bool.and_eq_true, decide_eq_true_eq] at h
    obtain ⟨p, rfl⟩ := asName_some e
    cases q : G.cst g with
    | none =>
      refine ⟨fun pins s σ H Q I ⟨ρ, tt, vs, r, ρ', hR, hl, hF, hQ⟩ => ?_⟩
      simp only [runE, q] at hF
      cases hF
    | some d =>
      obtain ⟨db, u, v, h1, h2, h3⟩ := o.cst g y d h.1 q
      refine (pe_glob (o.gl h.2) h1 h2 db).imp fun σ H Q ⟨ρ, tt, vs, r, ρ', hR, hl, hF, hQ⟩ => ?_
      simp only [runE, q] at hF
      cases hF
      exact hQ v H (hR.push_val (h3 _ _))
theorem snd_bin {op : Bop} {a b : E} {x : Expr} (h : okE gi N sc (.bin op a b) x = true) (iha : ∀ y, okE gi N sc a y = true → SE tabs X y (runE G a)) (ihb : ∀ y, okE gi N sc b y = true → SE tabs X y (runE G b)) : SE tabs X x (runE G (.bin op a b)) := fun B hB => by
  simp only [okE] at h
  cases e : asBin x with
  | none => rw [e] at h; cases h
  | some z =>
    obtain ⟨l, oo, r⟩ := z
    rw [e] at h
    simp only [Bool.and_eq_true, decide_eq_true_eq] at h
    obtain ⟨p, rfl⟩ := asBin_some e
    obtain ⟨⟨rfl, h1⟩, h2⟩ := h
    refine (pe_op (opd_bin op) (iha l h1 B hB) (ihb r h2 B hB)).imp fun σ H Q q => ?_
    refine read2 ?_
    simpa only [runE] using q
theorem snd_neg {a : E} {x : Expr} (h : okE gi N sc (.neg a) x = true) (iha : ∀ y, okE gi N sc a y = true → SE tabs X y (runE G a)) : SE tabs X x (runE G (.neg a)) := fun B hB => by
  simp only [okE] at h
  cases e : asUn x with
  | none => rw [e] at h; cases h
  | some z =>
    obtain ⟨oo, r⟩ := z
    rw [e] at h
    simp only [Bool.and_eq_true, decide_eq_true_eq] at h
    obtain ⟨p, rfl⟩ := asUn_some e
    obtain ⟨rfl, h1⟩ := h
    refine (pe_un und_neg (iha r h1 B hB)).imp fun σ H Q q => ?_
    refine read1 ?_
    simpa only [runE] using q
theorem cb_bind (o : Option Bool) (ρ : Env) : ((Res.of (cb o)).bind fun r => .ok (r, ρ) : Res (Rv × Env)) = (Res.of o).bind fun r => .ok (.val (.bl r), ρ) := by cases o <;> rfl
theorem notset {op : CmpOp} {r : Expr} (h : isSetE r = false) : behindInMarks op r = false := by
  cases r <;> first | rfl | (simp [isSetE] at h)
theorem snd_cmp (o : XOk gi G tabs N sc ts k X) {op : Cop} {a b : E} {x : Expr} (h : okE gi N sc (.cmp op a b) x = true) (iha : ∀ y, okE gi N sc a y = true → SE tabs X y (runE G a)) (ihb : ∀ y, okE gi N sc b y = true → SE tabs X y (runE G b)) : SE tabs X x (runE G (.cmp op a b)) ∧ ST tabs X x (runE G (.cmp op a b)) := by
  simp only [okE] at h
  split at h
  · rename_i l oo r e
    simp only [Bool.and_eq_true, decide_eq_true_eq, Bool.not_eq_true'] at h
    obtain ⟨p, rfl⟩ := asCmp_some e
    obtain ⟨⟨⟨rfl, h0⟩, h1⟩, h2⟩ := h
    have hr : ∀ B σ H Q, tE X.K B (runE G (.cmp op a b)) σ H Q → tOp (opD X.K fun a b => cb (dCmp op a b)) (tE X.K B (runE G a)) (tE X.K B (runE G b)) σ H Q := fun B σ H Q q => by
      refine read2 (g := fun a b => cb (dCmp op a b)) ?_
      obtain ⟨ρ, tt, vs, r, ρ', hR, hl, hF, hQ⟩ := q
      refine ⟨ρ, tt, vs, r, ρ', hR, hl, ?_, hQ⟩
      simp only [runE] at hF
      simp only [cb_bind]
      exact hF
    refine ⟨fun B hB => ?_, fun B hB => ?_⟩
    · exact (pe_cmpR (opd_cmp o.hu op) (iha l h1 B hB) (ihb r h2 B hB) (notset h0)).imp fun σ H Q q => hr B σ H Q q
    · refine (pt_cmpR (opd_cmp o.hu op) (iha l h1 B hB) (ihb r h2 B hB) (notset h0)).imp fun σ H Q q => ?_
      obtain ⟨ρ, tt, vs, r, ρ', b, hR, hl, hF, hb, hQ⟩ := q
      refine hr B σ H _ ⟨ρ, tt, vs, r, ρ', hR, hl, hF, fun v H' R1 => ?_⟩
      obtain ⟨q0, q1⟩ := R1.take1
      have hF2 := hF
      simp only [runE] at hF2
      obtain ⟨p1, g1, hF2⟩ := Res.bind_ok hF2
      obtain ⟨p2, g2, hF2⟩ := Res.bind_ok hF2
      obtain ⟨c, g3, hF2⟩ := Res.bind_ok hF2
      cases hF2
      cases hb
      exact ⟨_, q1.blV, hQ H' q0⟩
  · cases h

/-! ### chains -/
theorem snd_chn (o : XOk gi G tabs N sc ts k X) {op op' : Cop} {a b c : E} {x : Expr} (h : okE gi N sc (.chn op op' a b c) x = true) (iha : ∀ y, okE gi N sc a y = true → SE tabs X y (runE G a)) (ihb : ∀ y, okE gi N sc b y = true → SE tabs X y (runE G b)) (ihc : ∀ y, okE gi N sc c y = true → SE tabs X y (runE G c)) :
    SE tabs X x (runE G (.chn op op' a b c)) ∧ ST tabs X x (runE G (.chn op op' a b c)) := by
  simp only [okE] at h
  split at h
  · rename_i l oo oo' m r e
    simp only [Bool.and_eq_true, decide_eq_true_eq, Bool.not_eq_true'] at h
    obtain ⟨p, rfl⟩ := asCmp_some e
    obtain ⟨⟨⟨⟨⟨⟨rfl, rfl⟩, hs1⟩, hs2⟩, h1⟩, h2⟩, h3⟩ := h
    have hr : ∀ B σ H Q, tE X.K B (runE G (.chn op op' a b c)) σ H Q → tChain (opD X.K fun a b => cb (dCmp op a b)) (opD X.K fun a b => cb (dCmp op' a b)) (tE X.K B (runE G a)) (tE X.K B (runE G b)) (tE X.K B (runE G c)) σ H Q := fun B σ H Q q => by
      obtain ⟨ρ, tt, vs, r, ρ', hR, hl, hF, hQ⟩ := q
      simp only [runE] at hF
      obtain ⟨⟨ra, ρ1⟩, g1, hF⟩ := Res.bind_ok hF
      obtain ⟨⟨rb, ρ2⟩, g2, hF⟩ := Res.bind_ok hF
      obtain ⟨k1, g3, hF⟩ := Res.bind_ok hF
      have g3 := Res.of_ok g3
      refine ⟨ρ, tt, vs, ra, ρ1, hR, hl, g1, fun x1 H1 R1 => ?_⟩
      have l1 : ρ1.length = σ.length := by have a := hR.len; have b := R1.len; simp at a b; omega
      refine ⟨ρ1, tt ++ [ra.sl], vs ++ [some x1], rb, ρ2, by simpa using R1, l1, g2, fun x2 H2 R2 => ?_⟩
      have R2' : R X.K B ((ρ2 ++ tt) ++ [ra.sl] ++ [rb.sl]) ((σ ++ vs) ++ [some x1] ++ [some x2]) H2 := by simpa using R2
      obtain ⟨q0, q1, q2⟩ := R2'.take2
      have l2 : ρ2.length = σ.length := by have a := hR.len; have b := q0.len; simp at a b; omega
      -- the right value of the first comparison stays a temp
      refine ⟨B, (ρ2 ++ tt) ++ [(Rv.val rb.d).sl], (σ ++ vs) ++ [some x2], ra.d, rb.d, .val (.bl k1), q0.push_val q2, ?_, ?_, by simp only [g3]; rfl, fun z H3 R3 => ?_⟩
      · exact .rp (rp_congr (fun a m => (mt_push_val q0.len).mp m) q1)
      · exact .rp (rp_congr (fun a m => (mt_push_val q0.len).mp m) q2)
      · obtain ⟨q3, q4⟩ := R3.take1
        refine ⟨k1, q4.blV, ?_⟩
        cases k1 with
        | false =>
          simp only [Bool.false_eq_true, if_false] at hF ⊢
          cases hF
          obtain ⟨q5, _⟩ := q3.take1
          exact hQ _ H3 (q5.push_val (.bl false))
        | true =>
          simp only [if_true] at hF ⊢
          obtain ⟨⟨rc, ρ3⟩, g4, hF⟩ := Res.bind_ok hF
          obtain ⟨k2, g5, hF⟩ := Res.bind_ok hF
          have g5 := Res.of_ok g5
          cases hF
          refine ⟨ρ2, tt ++ [(Rv.val rb.d).sl], vs ++ [some x2], rc, ρ3, by simpa using q3, l2, g4, fun x3 H4 R4 => ?_⟩
          have R4' : R X.K B ((ρ3 ++ tt) ++ [(Rv.val rb.d).sl] ++ [rc.sl]) ((σ ++ vs) ++ [some x2] ++ [some x3]) H4 := by simpa using R4
          obtain ⟨q6, q7, q8⟩ := R4'.take2
          exact ⟨B, _, _, _, _, _, q6, .rp q7, .rp q8, by show cb (dCmp op' rb.d rc.d) = _; rw [show dCmp op' rb.d rc.d = some k2 from g5]; rfl, hQ⟩
    refine ⟨fun B hB => ?_, fun B hB => ?_⟩
    · exact (pe_chain (opd_cmp o.hu op) (opd_cmp o.hu op') (iha l h1 B hB) (ihb m h2 B hB) (ihc r h3 B hB) (notset hs2)).imp fun σ H Q q => hr B σ H Q q
    · refine (pt_chain (opd_cmp o.hu op) (opd_cmp o.hu op') (iha l h1 B hB) (ihb m h2 B hB) (ihc r h3 B hB) (notset hs2)).imp fun σ H Q q => ?_
      obtain ⟨ρ, tt, vs, r, ρ', b', hR, hl, hF, hb, hQ⟩ := q
      refine hr B σ H _ ⟨ρ, tt, vs, r, ρ', hR, hl, hF, fun v H' R1 => ?_⟩
      obtain ⟨q0, q1⟩ := R1.take1
      have hF2 := hF
      simp only [runE] at hF2
      obtain ⟨p1, g1, hF2⟩ := Res.bind_ok hF2
      obtain ⟨p2, g2, hF2⟩ := Res.bind_ok hF2
      obtain ⟨k1, g3, hF2⟩ := Res.bind_ok hF2
      cases k1 with
      | false =>
        simp only [Bool.false_eq_true, if_false] at hF2
        cases hF2
        cases hb
        exact ⟨_, q1.blV, hQ H' q0⟩
      | true =>
        simp only [if_true] at hF2
        obtain ⟨p4, g4, hF2⟩ := Res.bind_ok hF2
        obtain ⟨k2, g5, hF2⟩ := Res.bind_ok hF2
        cases hF2
        cases hb
        exact ⟨_, q1.blV, hQ H' q0⟩
  · cases h

/-! ### and, or, not, if -/
theorem tE_tTr {B : Bs} {F : Env → Res (Rv × Env)} {σ : L2.St} {H : Hp} {Q : Bool → Hp → Prop} (h : tTr X.K B F σ H Q) : tE X.K B F σ H fun x H1 => ∃ b, TruV X.K x H1 b ∧ Q b H1 := by
  obtain ⟨ρ, tt, vs, r, ρ', b, hR, hl, hF, hb, hQ⟩ := h
  refine ⟨ρ, tt, vs, r, ρ', hR, hl, hF, fun v H' R1 => ?_⟩
  obtain ⟨q0, q1⟩ := R1.take1
  exact ⟨b, truV_of q1 hb, hQ H' q0⟩
/-- a test whose answer is its value's truth -/
def plainTest : Expr → Bool
  | .BoolOp _ _ _ => false
  | .UnaryOp .Not _ _ => false
  | .IfExp _ _ _ _ => false
  | .Compare _ _ _ _ => false
  | _ => true
theorem isTrue_plainTest {x : Expr} {env : PySem.Env} (h : plainTest x = true) : ∀ whole, isTrue x env whole = (do let v ← whole; standAt x.pos; holding [v] (truthy v)) := by
  intro whole
  cases x with
  | UnaryOp op _ _ => cases op <;> first | (simp [plainTest] at h; done) | rfl
  | BoolOp _ _ _ => simp [plainTest] at h
  | IfExp _ _ _ _ => simp [plainTest] at h
  | Compare _ _ _ _ => simp [plainTest] at h
  | _ => rfl
theorem st_plain {x : Expr} {F : Env → Res (Rv × Env)} (h : plainTest x = true) (he : SE tabs X x F) : ST tabs X x F := fun B hB =>
  (pt_truth (he B hB) (isTrue_plainTest h)).imp fun σ H Q q => tE_tTr q
theorem pe_peel {z : Expr} {t : TE} (h : PE X (peel z) t) : PE X z t := by
  cases z with
  | BoolOp op vs p =>
    cases vs with
    | nil => exact h
    | cons a r => cases r with
      | nil => exact pe_one h
      | cons _ _ => exact h
  | _ => exact h
theorem pw_peelA {y : Expr} {rest : List Expr} {p : Pos} {t : TT} (h : PT X (peel (.BoolOp .And (y :: rest) p)) t) : PW X (.BoolOp .And (y :: rest) p) t := by
  cases rest with
  | nil => exact pw_and1 h
  | cons _ _ => exact ⟨fun wh pins s σ H Q I q => h.run pins s σ H Q I q⟩
theorem pw_peelO {y : Expr} {rest : List Expr} {p : Pos} {t : TT} (h : PT X (peel (.BoolOp .Or (y :: rest) p)) t) : PW X (.BoolOp .Or (y :: rest) p) t := by
  cases rest with
  | nil => exact pw_or1 h
  | cons _ _ => exact ⟨fun wh pins s σ H Q I q => h.run pins s σ H Q I q⟩
theorem snd_and {a b : E} {x : Expr} (h : okE gi N sc (.and a b) x = true) (iha : ∀ y, okE gi N sc a y = true → SE tabs X y (runE G a) ∧ ST tabs X y (runE G a)) (ihb : ∀ y, okE gi N sc b y = true → SE tabs X y (runE G b) ∧ ST tabs X y (runE G b)) :
    SE tabs X x (runE G (.and a b)) ∧ ST tabs X x (runE G (.and a b)) := by
  simp only [okE] at h
  cases e : asBool x with
  | none => rw [e] at h; cases h
  | some z =>
    obtain ⟨oo, l, r⟩ := z
    rw [e] at h
    simp only [Bool.and_eq_true, decide_eq_true_eq] at h
    obtain ⟨y, rest, p, rfl, rfl⟩ := asBool_some e
    obtain ⟨⟨rfl, h1⟩, h2⟩ := h
    refine ⟨fun B hB => ?_, fun B hB => ?_⟩
    · refine (pe_andT ((iha l h1).1 B hB) (pe_peel ((ihb _ h2).1 B hB))).imp fun σ H Q q => ?_
      obtain ⟨ρ, tt, vs, r, ρ', hR, hl, hF, hQ⟩ := q
      simp only [runE] at hF
      obtain ⟨⟨ra, ρ1⟩, g1, hF⟩ := Res.bind_ok hF
      obtain ⟨t, g2, hF⟩ := Res.bind_ok hF
      have g2 := Res.of_ok g2
      refine ⟨ρ, tt, vs, ra, ρ1, hR, hl, g1, fun v H' R1 => ?_⟩
      obtain ⟨q0, q1⟩ := R1.take1
      have l1 : ρ1.length = σ.length := by have a := hR.len; have b := q0.len; simp at a b; omega
      refine ⟨t, truV_of q1 g2, ?_⟩
      cases t with
      | true =>
        simp only [if_true] at hF ⊢
        exact ⟨ρ1, tt, vs, r, ρ', q0, l1, hF, hQ⟩
      | false =>
        simp only [Bool.false_eq_true, if_false] at hF ⊢
        cases hF
        exact hQ v H' R1
    · refine (pw_and ((iha l h1).2 B hB) (pw_peelA ((ihb _ h2).2 B hB))).pt.imp fun σ H Q q => ?_
      obtain ⟨ρ, tt, vs, r, ρ', bb, hR, hl, hF, hb, hQ⟩ := q
      simp only [runE] at hF
      obtain ⟨⟨ra, ρ1⟩, g1, hF⟩ := Res.bind_ok hF
      obtain ⟨t, g2, hF⟩ := Res.bind_ok hF
      have g2 := Res.of_ok g2
      refine ⟨ρ, tt, vs, ra, ρ1, t, hR, hl, g1, g2, fun H' R1 => ?_⟩
      have l1 : ρ1.length = σ.length := by have a := hR.len; have b := R1.len; simp at a b; omega
      cases t with
      | true =>
        simp only [if_true] at hF ⊢
        exact ⟨ρ1, tt, vs, r, ρ', bb, R1, l1, hF, hb, hQ⟩
      | false =>
        simp only [Bool.false_eq_true, if_false] at hF ⊢
        cases hF
        rw [show dTruth r.d = some false from g2] at hb
        cases hb
        exact hQ H' R1
theorem snd_or {a b : E} {x : Expr} (h : okE gi N sc (.or a b) x = true) (iha : ∀ y, okE gi N sc a y = true → SE tabs X y (runE G a) ∧ ST tabs X y (runE G a)) (ihb : ∀ y, okE gi N sc b y = true → SE tabs X y (runE G b) ∧ ST tabs X y (runE G b)) :
    SE tabs X x (runE G (.or a b)) ∧ ST tabs X x (runE G (.or a b)) := by
  simp only [okE] at h
  cases e : asBool x with
  | none => rw [e] at h; cases h
  | some z =>
    obtain ⟨oo, l, r⟩ := z
    rw [e] at h
    simp only [Bool.and_eq_true, decide_eq_true_eq] at h
    obtain ⟨y, rest, p, rfl, rfl⟩ := asBool_some e
    obtain ⟨⟨rfl, h1⟩, h2⟩ := h
    refine ⟨fun B hB => ?_, fun B hB => ?_⟩
    · refine (pe_orT ((iha l h1).1 B hB) (pe_peel ((ihb _ h2).1 B hB))).imp fun σ H Q q => ?_
      obtain ⟨ρ, tt, vs, r, ρ', hR, hl, hF, hQ⟩ := q
      simp only [runE] at hF
      obtain ⟨⟨ra, ρ1⟩, g1, hF⟩ := Res.bind_ok hF
      obtain ⟨t, g2, hF⟩ := Res.bind_ok hF
      have g2 := Res.of_ok g2
      refine ⟨ρ, tt, vs, ra, ρ1, hR, hl, g1, fun v H' R1 => ?_⟩
      obtain ⟨q0, q1⟩ := R1.take1
      have l1 : ρ1.length = σ.length := by have a := hR.len; have b := q0.len; simp at a b; omega
      refine ⟨t, truV_of q1 g2, ?_⟩
      cases t with
      | false =>
        simp only [Bool.false_eq_true, if_false] at hF ⊢
        exact ⟨ρ1, tt, vs, r, ρ', q0, l1, hF, hQ⟩
      | true =>
        simp only [if_true] at hF ⊢
        cases hF
        exact hQ v H' R1
    · refine (pw_or ((iha l h1).2 B hB) (pw_peelO ((ihb _ h2).2 B hB))).pt.imp fun σ H Q q => ?_
      obtain ⟨ρ, tt, vs, r, ρ', bb, hR, hl, hF, hb, hQ⟩ := q
      simp only [runE] at hF
      obtain ⟨⟨ra, ρ1⟩, g1, hF⟩ := Res.bind_ok hF
      obtain ⟨t, g2, hF⟩ := Res.bind_ok hF
      have g2 := Res.of_ok g2
      refine ⟨ρ, tt, vs, ra, ρ1, t, hR, hl, g1, g2, fun H' R1 => ?_⟩
      have l1 : ρ1.length = σ.length := by have a := hR.len; have b := R1.len; simp at a b; omega
      cases t with
      | false =>
        simp only [Bool.false_eq_true, if_false] at hF ⊢
        exact ⟨ρ1, tt, vs, r, ρ', bb, R1, l1, hF, hb, hQ⟩
      | true =>
        simp only [if_true] at hF ⊢
        cases hF
        rw [show dTruth r.d = some true from g2] at hb
        cases hb
        exact hQ H' R1
theorem snd_not {a : E} {x : Expr} (h : okE gi N sc (.not a) x = true) (iha : ∀ y, okE gi N sc a y = true → SE tabs X y (runE G a) ∧ ST tabs X y (runE G a)) :
    SE tabs X x (runE G (.not a)) ∧ ST tabs X x (runE G (.not a)) := by
  simp only [okE] at h
  cases e : asUn x with
  | none => rw [e] at h; cases h
  | some z =>
    obtain ⟨oo, r⟩ := z
    rw [e] at h
    simp only [Bool.and_eq_true, decide_eq_true_eq] at h
    obtain ⟨p, rfl⟩ := asUn_some e
    obtain ⟨rfl, h1⟩ := h
    refine ⟨fun B hB => ?_, fun B hB => ?_⟩
    · refine (pe_notT ((iha r h1).1 B hB)).imp fun σ H Q q => ?_
      obtain ⟨ρ, tt, vs, r, ρ', hR, hl, hF, hQ⟩ := q
      simp only [runE] at hF
      obtain ⟨⟨ra, ρ1⟩, g1, hF⟩ := Res.bind_ok hF
      obtain ⟨t, g2, hF⟩ := Res.bind_ok hF
      have g2 := Res.of_ok g2
      cases hF
      refine ⟨ρ, tt, vs, ra, ρ1, hR, hl, g1, fun v H' R1 => ?_⟩
      obtain ⟨q0, q1⟩ := R1.take1
      exact ⟨t, truV_of q1 g2, hQ _ H' (q0.push_val (.bl _))⟩
    · refine (pt_not ((iha r h1).2 B hB)).imp fun σ H Q q => ?_
      obtain ⟨ρ, tt, vs, r, ρ', bb, hR, hl, hF, hb, hQ⟩ := q
      simp only [runE] at hF
      obtain ⟨⟨ra, ρ1⟩, g1, hF⟩ := Res.bind_ok hF
      obtain ⟨t, g2, hF⟩ := Res.bind_ok hF
      have g2 := Res.of_ok g2
      cases hF
      cases hb
      exact ⟨ρ, tt, vs, ra, ρ1, t, hR, hl, g1, g2, fun H' R1 => hQ H' R1⟩
theorem snd_ite {c a b : E} {x : Expr} (h : okE gi N sc (.ite c a b) x = true) (ihc : ∀ y, okE gi N sc c y = true → SE tabs X y (runE G c) ∧ ST tabs X y (runE G c)) (iha : ∀ y, okE gi N sc a y = true → SE tabs X y (runE G a)) (ihb : ∀ y, okE gi N sc b y = true → SE tabs X y (runE G b)) :
    SE tabs X x (runE G (.ite c a b)) := fun B hB => by
  simp only [okE] at h
  cases e : asIf x with
  | none => rw [e] at h; cases h
  | some z =>
    obtain ⟨y, l, r⟩ := z
    rw [e] at h
    simp only [Bool.and_eq_true] at h
    obtain ⟨p, rfl⟩ := asIf_some e
    refine (pe_ifExp ((ihc y h.1.1).2 B hB) (iha l h.1.2 B hB) (ihb r h.2 B hB)).imp fun σ H Q q => ?_
    obtain ⟨ρ, tt, vs, r, ρ', hR, hl, hF, hQ⟩ := q
    simp only [runE] at hF
    obtain ⟨⟨rc, ρ1⟩, g1, hF⟩ := Res.bind_ok hF
    obtain ⟨t, g2, hF⟩ := Res.bind_ok hF
    have g2 := Res.of_ok g2
    refine ⟨ρ, tt, vs, rc, ρ1, t, hR, hl, g1, g2, fun H' R1 => ?_⟩
    have l1 : ρ1.length = σ.length := by have a := hR.len; have b := R1.len; simp at a b; omega
    cases t with
    | true =>
      simp only [if_true] at hF ⊢
      exact ⟨ρ1, tt, vs, r, ρ', R1, l1, hF, hQ⟩
    | false =>
      simp only [Bool.false_eq_true, if_false] at hF ⊢
      exact ⟨ρ1, tt, vs, r, ρ', R1, l1, hF, hQ⟩
end
end Gw

set_option Elab.async false
set_option linter.all false
set_option maxRecDepth 100000
set_option maxHeartbeats 2000000
/-! The value layer, part 9: displays, places, calls. -/
namespace Gw
open PySem L2
section
variable {gi : GI} {G : Glo} {tabs : List Addr} {N : List Str} {sc ts : Scope} {k : Nat} {X : Cx}

theorem star_of {x : Expr} {xs : List Expr} {env : PySem.Env} (h : isStar x = false) : starEach (x :: xs) env = (false, eval x env) :: starEach xs env := by
  cases x <;> first | rfl | (simp [isStar] at h)
theorem okEs_star : ∀ {es : Es} {l : List Expr} {env : PySem.Env} {pos : Pos}, okEs gi N sc es l = true → (backTo pos (starEach l env)).any (·.1) = false
  | .nil, l, _, _, h => by
    have : l = [] := by simpa [okEs] using h
    subst this; rfl
  | .cons e es, [], _, _, h => by simp [okEs] at h
  | .cons e es, x :: r, env, pos, h => by
    simp only [okEs, Bool.and_eq_true, Bool.not_eq_true'] at h
    rw [star_of h.1.1]
    show ((backTo pos (starEach r env)).any (·.1)) = false
    exact okEs_star h.2

/-! ### argument lists -/
theorem snd_nil : SA tabs X [] (runEs G .nil) := fun B hB => pa_nil.imp fun σ H Q ⟨ρ, tt, vs, rs, ρ', hR, hl, hF, hQ⟩ => by
  simp only [runEs] at hF
  cases hF
  exact hQ [] H rfl (by simpa using hR)
theorem snd_cons {e : E} {es : Es} {x : Expr} {xs : List Expr} (hs : isStar x = false) (h1 : SE tabs X x (runE G e)) (h2 : SA tabs X xs (runEs G es)) : SA tabs X (x :: xs) (runEs G (.cons e es)) := fun B hB =>
  (pa_cons (h1 B hB) (h2 B hB) (star_of hs)).imp fun σ H Q ⟨ρ, tt, vs, rs, ρ', hR, hl, hF, hQ⟩ => by
    simp only [runEs] at hF
    obtain ⟨⟨ra, ρ1⟩, g1, hF⟩ := Res.bind_ok hF
    obtain ⟨⟨rb, ρ2⟩, g2, hF⟩ := Res.bind_ok hF
    cases hF
    refine ⟨ρ, tt, vs, ra, ρ1, hR, hl, g1, fun x1 H1 R1 => ?_⟩
    have l1 : ρ1.length = σ.length := by have a := hR.len; have b := R1.len; simp at a b; omega
    refine ⟨ρ1, tt ++ [ra.sl], vs ++ [some x1], rb, ρ2, by simpa using R1, l1, g2, fun us H2 hu R2 => ?_⟩
    exact hQ (x1 :: us) H2 (by simp [hu]) (by simpa using R2)

/-! ### displays -/
theorem snd_tup {es : Es} {x : Expr} (h : okE gi N sc (.tup es) x = true) (ih : ∀ l, okEs gi N sc es l = true → SA tabs X l (runEs G es)) : SE tabs X x (runE G (.tup es)) := fun B hB => by
  simp only [okE] at h
  cases e : asTup x with
  | none => rw [e] at h; cases h
  | some l =>
    rw [e] at h
    obtain ⟨kk, p, rfl⟩ := asTup_some e
    refine (pe_tup (ih l h B hB)).imp fun σ H Q ⟨ρ, tt, vs, r, ρ', hR, hl, hF, hQ⟩ => ?_
    simp only [runE] at hF
    obtain ⟨⟨rs, ρ1⟩, g1, hF⟩ := Res.bind_ok hF
    by_cases hz : lineOk rs.length = true
    · rw [if_pos hz] at hF
      cases hF
      refine ⟨ρ, tt, vs, rs, ρ1, hR, hl, g1, fun us H1 hu R1 => ?_⟩
      have e1 : (ρ1 ++ tt).length = (σ ++ vs).length := by have a := hR.len; have b := R1.len; simp at a b ⊢; omega
      obtain ⟨q0, q1⟩ := R1.takeAll e1
      exact ⟨by rw [hu]; exact lineOk_iff hz, fin_tup q0 q1 hQ⟩
    · rw [if_neg hz] at hF; cases hF
theorem snd_lst {es : Es} {x : Expr} (h : okE gi N sc (.lst es) x = true) (ih : ∀ l, okEs gi N sc es l = true → SA tabs X l (runEs G es)) : SE tabs X x (runE G (.lst es)) := fun B hB => by
  simp only [okE] at h
  cases e : asLst x with
  | none => rw [e] at h; cases h
  | some l =>
    rw [e] at h
    obtain ⟨p, rfl⟩ := asLst_some e
    refine (pe_lst (ih l h B hB)).imp fun σ H Q ⟨ρ, tt, vs, r, ρ', hR, hl, hF, hQ⟩ => ?_
    simp only [runE] at hF
    obtain ⟨⟨rs, ρ1⟩, g1, hF⟩ := Res.bind_ok hF
    by_cases hz : lineOk rs.length = true
    · rw [if_pos hz] at hF
      cases hF
      refine ⟨ρ, tt, vs, rs, ρ1, hR, hl, g1, fun us H1 hu R1 => ?_⟩
      have e1 : (ρ1 ++ tt).length = (σ ++ vs).length := by have a := hR.len; have b := R1.len; simp at a b ⊢; omega
      obtain ⟨q0, q1⟩ := R1.takeAll e1
      exact ⟨by rw [hu]; exact lineOk_iff hz, fin_lst q0 q1 hQ⟩
    · rw [if_neg hz] at hF; cases hF

/-! ### places -/
theorem plainIx {b : Expr} (h : isSlice b = false) : PlainIx b := fun o i => by
  cases b <;> first | rfl | (simp [isSlice] at h)
theorem map_bind (o : Option D) (ρ : Env) : ((Res.of (o.map Rv.val)).bind fun r => .ok (r, ρ) : Res (Rv × Env)) = (Res.of o).bind fun r => .ok (.val r, ρ) := by cases o <;> rfl
theorem snd_idx {a b : E} {x : Expr} (h : okE gi N sc (.idx a b) x = true) (iha : ∀ y, okE gi N sc a y = true → SE tabs X y (runE G a)) (ihb : ∀ y, okE gi N sc b y = true → SE tabs X y (runE G b)) : SE tabs X x (runE G (.idx a b)) := fun B hB => by
  simp only [okE] at h
  cases e : asSub x with
  | none => rw [e] at h; cases h
  | some z =>
    obtain ⟨l, r⟩ := z
    rw [e] at h
    simp only [Bool.and_eq_true] at h
    obtain ⟨p, rfl, hs⟩ := asSub_some e
    refine (pe_ix ixd (iha l h.1 B hB) (ihb r h.2 B hB) (plainIx hs)).imp fun σ H Q q => ?_
    refine read2 (g := fun a b => (dIdx a b).map .val) ?_
    obtain ⟨ρ, tt, vs, r, ρ', hR, hl, hF, hQ⟩ := q
    refine ⟨ρ, tt, vs, r, ρ', hR, hl, ?_, hQ⟩
    simp only [runE] at hF
    simp only [map_bind]
    exact hF
theorem R.read {K : PySem.W.Frag} {B : Bs} {ρ : Env} {tt : List Sl} {σ vs : List (Option V)} {H : Hp} {i : Nat} {c : D} (hR : R K B (ρ ++ tt) (σ ++ vs) H) (hl : ρ.length = σ.length) (h : (ρ.at i).d? = some c) :
    ∃ v, σ[i]? = some (some v) ∧ Ra K (Mt B.Z (ρ ++ tt) (σ ++ vs)) H v c := by
  cases e : ρ.at i with
  | no => rw [e] at h; cases h
  | val d =>
    rw [e] at h; cases h
    have g := at_some e (by intro z; cases z)
    obtain ⟨v, h1, h2⟩ := hR.val i _ (getL g)
    have hi := lt_of_get g
    rw [get_left (by omega)] at h1
    exact ⟨v, h1, .rp h2⟩
  | own d =>
    rw [e] at h; cases h
    have g := at_some e (by intro z; cases z)
    obtain ⟨v, h1, h2, _⟩ := hR.own i _ (getL g)
    have hi := lt_of_get g
    rw [get_left (by omega)] at h1
    exact ⟨_, h1, .own rfl h2⟩
  | ref d =>
    rw [e] at h; cases h
    have g := at_some e (by intro z; cases z)
    obtain ⟨v, _, h1, h2⟩ := hR.ref i _ (getL g)
    have hi := lt_of_get g
    rw [get_left (by omega)] at h1
    exact ⟨_, h1, .own rfl h2⟩
theorem snd_idv (o : XOk gi G tabs N sc ts k X) {i : Nat} {b : E} {x : Expr} (h : okE gi N sc (.idv i b) x = true) (ihb : ∀ y, okE gi N sc b y = true → SE tabs X y (runE G b)) : SE tabs X x (runE G (.idv i b)) := fun B hB => by
  simp only [okE] at h
  cases e : asSub x with
  | none => rw [e] at h; cases h
  | some z =>
    obtain ⟨l, r⟩ := z
    rw [e] at h
    simp only [Bool.and_eq_true] at h
    obtain ⟨p, rfl, hs⟩ := asSub_some e
    refine (pe_ix ixd (o.var h.1) (ihb r h.2 B hB) (plainIx hs)).imp fun σ H Q ⟨ρ, tt, vs, r, ρ', hR, hl, hF, hQ⟩ => ?_
    simp only [runE] at hF
    obtain ⟨c0, g0, hF⟩ := Res.bind_ok hF
    obtain ⟨⟨rb, ρ1⟩, g1, hF⟩ := Res.bind_ok hF
    obtain ⟨c, g2, hF⟩ := Res.bind_ok hF
    obtain ⟨d, g3, hF⟩ := Res.bind_ok hF
    cases hF
    obtain ⟨v, hv, _⟩ := hR.read hl (Res.of_ok g0)
    refine ⟨v, hv, ρ, tt, vs, rb, ρ1, hR, hl, g1, fun y H1 R1 => ?_⟩
    obtain ⟨q0, q1⟩ := R1.take1
    have l1 : ρ1.length = σ.length := by have a := hR.len; have b := q0.len; simp at a b; omega
    obtain ⟨v', hv', hc⟩ := q0.read l1 (Res.of_ok g2)
    rw [hv] at hv'; cases hv'
    exact ⟨B, _, _, _, _, _, q0, hc, .rp q1, by show (dIdx c rb.d).map Rv.val = _; rw [show dIdx c rb.d = some d from Res.of_ok g3]; rfl, hQ⟩
def tPt (K : PySem.W.Frag) (B : Bs) (F : Env → Res (Option Int × Env)) : TO := fun σ H Q => ∃ (ρ : Env) (ts : List Sl) (vs : List (Option V)) (r : Option Int) (ρ' : Env),
  R K B (ρ ++ ts) (σ ++ vs) H ∧ ρ.length = σ.length ∧ F ρ = .ok (r, ρ') ∧ ∀ H', R K B (ρ' ++ ts) (σ ++ vs) H' → Q r H'
def runP (G : Glo) (lo : E) (ρ : Env) : Res (Option Int × Env) := if lo.isNop then .ok (none, ρ) else (runE G lo ρ).bind fun q => (Res.of (dPart q.1.d)).bind fun o => .ok (o, q.2)
theorem snd_part {e : E} {m : Option Expr} (h : (match m with | none => e.isNop | some y => !e.isNop && okE gi N sc e y) = true) (ih : ∀ y, okE gi N sc e y = true → SE tabs X y (runE G e)) (B : Bs) (hB : B.tabs = tabs) : PO X m (fun σ H Q => tPt X.K B (runP G e) σ H Q) := by
  cases m with
  | none =>
    have h : e.isNop = true := h
    refine ⟨fun pins s σ H Q I ⟨ρ, tt, vs, r, ρ', hR, hl, hF, hQ⟩ => ?_⟩
    unfold runP at hF
    rw [if_pos h] at hF
    cases hF
    exact (po_none (X := X)).run pins s σ H Q I (hQ H hR)
  | some y =>
    have h : (!e.isNop && okE gi N sc e y) = true := h
    rw [Bool.and_eq_true] at h
    have hn : e.isNop = false := by simpa using h.1
    refine ⟨fun pins s σ H Q I ⟨ρ, tt, vs, r, ρ', hR, hl, hF, hQ⟩ => ?_⟩
    unfold runP at hF
    rw [if_neg (by simp [hn])] at hF
    obtain ⟨⟨rb, ρ1⟩, g1, hF⟩ := Res.bind_ok hF
    obtain ⟨oo, g2, hF⟩ := Res.bind_ok hF
    have g2 := Res.of_ok g2
    cases hF
    refine (po_some (ih y h.2 B hB)).run pins s σ H Q I ⟨ρ, tt, vs, rb, ρ1, hR, hl, g1, fun v H1 R1 => ?_⟩
    obtain ⟨q0, q1⟩ := R1.take1
    cases q : rb.d with
    | int i =>
      rw [show (rb, ρ1).1.d = rb.d from rfl, q] at g2
      cases g2
      rw [q] at q1
      exact ⟨i, q1.intV, hQ H1 q0⟩
    | _ =>
      rw [show (rb, ρ1).1.d = rb.d from rfl, q] at g2
      cases g2
theorem snd_sli {a lo hi : E} {x : Expr} (h : okE gi N sc (.sli a lo hi) x = true) (iha : ∀ y, okE gi N sc a y = true → SE tabs X y (runE G a)) (ihl : ∀ y, okE gi N sc lo y = true → SE tabs X y (runE G lo)) (ihh : ∀ y, okE gi N sc hi y = true → SE tabs X y (runE G hi)) : SE tabs X x (runE G (.sli a lo hi)) := fun B hB => by
  simp only [okE] at h
  cases e : asSli x with
  | none => rw [e] at h; cases h
  | some z =>
    obtain ⟨l, m, r⟩ := z
    rw [e] at h
    simp only [Bool.and_eq_true] at h
    obtain ⟨p2, p, rfl⟩ := asSli_some e
    refine (pe_slice sld (iha l h.1.1 B hB) (snd_part h.1.2 ihl B hB) (snd_part h.2 ihh B hB)).imp fun σ H Q ⟨ρ, tt, vs, r, ρ', hR, hl, hF, hQ⟩ => ?_
    simp only [runE] at hF
    obtain ⟨⟨ra, ρ1⟩, g1, hF⟩ := Res.bind_ok hF
    obtain ⟨⟨o1, ρ2⟩, g2, hF⟩ := Res.bind_ok hF
    obtain ⟨⟨o2, ρ3⟩, g3, hF⟩ := Res.bind_ok hF
    obtain ⟨r', g4, hF⟩ := Res.bind_ok hF
    have g4 := Res.of_ok g4
    cases hF
    refine ⟨ρ, tt, vs, ra, ρ1, hR, hl, g1, fun x1 H1 R1 => ?_⟩
    have l1 : ρ1.length = σ.length := by have a := hR.len; have b := R1.len; simp at a b; omega
    refine ⟨ρ1, tt ++ [ra.sl], vs ++ [some x1], o1, ρ2, by simpa using R1, l1, g2, fun H2 R2 => ?_⟩
    have l2 : ρ2.length = σ.length := by have a := hR.len; have b := R2.len; simp at a b; omega
    refine ⟨ρ2, tt ++ [ra.sl], vs ++ [some x1], o2, ρ3, R2, l2, g3, fun H3 R3 => ?_⟩
    have R3' : R X.K B ((ρ3 ++ tt) ++ [ra.sl]) ((σ ++ vs) ++ [some x1]) H3 := by simpa using R3
    obtain ⟨q0, q1⟩ := R3'.take1
    exact ⟨B, _, _, _, _, q0, .rp q1, g4, hQ⟩
theorem blt_len : (("len" : String) : Str) ∈ bltNames := by decide +kernel
theorem snd_lenv (o : XOk gi G tabs N sc ts k X) {i : Nat} {x : Expr} (h : okE gi N sc (.lenv i) x = true) : SE tabs X x (runE G (.lenv i)) := fun B hB => by
  simp only [okE] at h
  split at h
  · rename_i f y e
    simp only [Bool.and_eq_true, decide_eq_true_eq] at h
    obtain ⟨p, pos, rfl⟩ := asCall_some e
    obtain ⟨⟨rfl, h1⟩, h2⟩ := h
    have hy : isStar y = false := by
      unfold okV at h2
      cases q : asName y with
      | none => rw [q] at h2; cases h2
      | some z => obtain ⟨_, rfl⟩ := asName_some q; rfl
    refine (pe_callB cad_len (o.gl h1) (o.blt _ blt_len) PySem.boot_len (pa_cons (o.var h2) pa_nil (star_of hy)) (he := star_of hy)).imp fun σ H Q ⟨ρ, tt, vs, r, ρ', hR, hl, hF, hQ⟩ => ?_
    simp only [runE] at hF
    obtain ⟨c, g0, hF⟩ := Res.bind_ok hF
    obtain ⟨r', g1, hF⟩ := Res.bind_ok hF
    cases hF
    obtain ⟨v, hv, hc⟩ := hR.read hl (Res.of_ok g0)
    exact ⟨v, hv, B, _, _, [c], _, hR, .cons hc .nil, Res.of_ok g1, hQ⟩
  · cases h
theorem okV_set {i : Nat} {x : Expr} (h : okV N sc i x = true) : isSetE x = false ∧ isStar x = false := by
  unfold okV at h
  cases q : asName x with
  | none => rw [q] at h; cases h
  | some z => obtain ⟨_, rfl⟩ := asName_some q; exact ⟨rfl, rfl⟩
theorem snd_inv (o : XOk gi G tabs N sc ts k X) {op : Cop} {a : E} {i : Nat} {x : Expr} (h : okE gi N sc (.inv op a i) x = true) (iha : ∀ y, okE gi N sc a y = true → SE tabs X y (runE G a)) : SE tabs X x (runE G (.inv op a i)) ∧ ST tabs X x (runE G (.inv op a i)) := by
  simp only [okE] at h
  split at h
  · rename_i l oo r e
    simp only [Bool.and_eq_true, decide_eq_true_eq] at h
    obtain ⟨p, rfl⟩ := asCmp_some e
    obtain ⟨⟨rfl, h1⟩, h2⟩ := h
    have hr : ∀ B, B.tabs = tabs → ∀ σ H Q, tE X.K B (runE G (.inv op a i)) σ H Q → tOp (opD X.K fun a b => cb (dCmp op a b)) (tE X.K B (runE G a)) (tVar i) σ H Q := fun B hB σ H Q ⟨ρ, tt, vs, r, ρ', hR, hl, hF, hQ⟩ => by
      simp only [runE] at hF
      obtain ⟨⟨ra, ρ1⟩, g1, hF⟩ := Res.bind_ok hF
      obtain ⟨c, g2, hF⟩ := Res.bind_ok hF
      obtain ⟨kk, g3, hF⟩ := Res.bind_ok hF
      cases hF
      refine ⟨ρ, tt, vs, ra, ρ1, hR, hl, g1, fun x1 H1 R1 => ?_⟩
      obtain ⟨q0, q1⟩ := R1.take1
      have l1 : ρ1.length = σ.length := by have a := hR.len; have b := R1.len; simp at a b; omega
      obtain ⟨v, hv, hc⟩ := q0.read l1 (Res.of_ok g2)
      exact ⟨v, hv, B, _, _, _, _, _, q0, .rp q1, hc, by show cb (dCmp op ra.d c) = _; rw [show dCmp op ra.d c = some kk from Res.of_ok g3]; rfl, hQ⟩
    refine ⟨fun B hB => (pe_cmpR (opd_cmp o.hu op) (iha l h1 B hB) (o.var h2) (notset (okV_set h2).1)).imp (hr B hB), fun B hB => (pt_cmpR (opd_cmp o.hu op) (iha l h1 B hB) (o.var h2) (notset (okV_set h2).1)).imp fun σ H Q ⟨ρ, tt, vs, r, ρ', bb, hR, hl, hF, hb, hQ⟩ => ?_⟩
    refine hr B hB σ H _ ⟨ρ, tt, vs, r, ρ', hR, hl, hF, fun v H' R1 => ?_⟩
    obtain ⟨q0, q1⟩ := R1.take1
    simp only [runE] at hF
    obtain ⟨p1, g1, hF⟩ := Res.bind_ok hF
    obtain ⟨p2, g2, hF⟩ := Res.bind_ok hF
    obtain ⟨c, g3, hF⟩ := Res.bind_ok hF
    cases hF
    cases hb
    exact ⟨_, q1.blV, hQ H' q0⟩
  · cases h
theorem snd_cmv (o : XOk gi G tabs N sc ts k X) {op : Cop} {a : E} {i : Nat} {x : Expr} (h : okE gi N sc (.cmv op i a) x = true) (iha : ∀ y, okE gi N sc a y = true → SE tabs X y (runE G a)) : SE tabs X x (runE G (.cmv op i a)) ∧ ST tabs X x (runE G (.cmv op i a)) := by
  simp only [okE] at h
  split at h
  · rename_i l oo r e
    simp only [Bool.and_eq_true, decide_eq_true_eq, Bool.not_eq_true'] at h
    obtain ⟨p, rfl⟩ := asCmp_some e
    obtain ⟨⟨⟨rfl, h0⟩, h1⟩, h2⟩ := h
    have hr : ∀ B, B.tabs = tabs → ∀ σ H Q, tE X.K B (runE G (.cmv op i a)) σ H Q → tOp (opD X.K fun a b => cb (dCmp op a b)) (tVar i) (tE X.K B (runE G a)) σ H Q := fun B hB σ H Q ⟨ρ, tt, vs, r, ρ', hR, hl, hF, hQ⟩ => by
      simp only [runE] at hF
      obtain ⟨c0, g0, hF⟩ := Res.bind_ok hF
      obtain ⟨⟨ra, ρ1⟩, g1, hF⟩ := Res.bind_ok hF
      obtain ⟨c, g2, hF⟩ := Res.bind_ok hF
      obtain ⟨kk, g3, hF⟩ := Res.bind_ok hF
      cases hF
      obtain ⟨v0, hv0, _⟩ := hR.read hl (Res.of_ok g0)
      refine ⟨v0, hv0, ρ, tt, vs, ra, ρ1, hR, hl, g1, fun x1 H1 R1 => ?_⟩
      obtain ⟨q0, q1⟩ := R1.take1
      have l1 : ρ1.length = σ.length := by have a := hR.len; have b := R1.len; simp at a b; omega
      obtain ⟨v, hv, hc⟩ := q0.read l1 (Res.of_ok g2)
      rw [hv0] at hv; cases hv
      exact ⟨B, _, _, _, _, _, q0, hc, .rp q1, by show cb (dCmp op c ra.d) = _; rw [show dCmp op c ra.d = some kk from Res.of_ok g3]; rfl, hQ⟩
    refine ⟨fun B hB => (pe_cmpR (opd_cmp o.hu op) (o.var h1) (iha r h2 B hB) (notset h0)).imp (hr B hB), fun B hB => (pt_cmpR (opd_cmp o.hu op) (o.var h1) (iha r h2 B hB) (notset h0)).imp fun σ H Q ⟨ρ, tt, vs, r, ρ', bb, hR, hl, hF, hb, hQ⟩ => ?_⟩
    refine hr B hB σ H _ ⟨ρ, tt, vs, r, ρ', hR, hl, hF, fun v H' R1 => ?_⟩
    obtain ⟨q0, q1⟩ := R1.take1
    simp only [runE] at hF
    obtain ⟨p0, g0, hF⟩ := Res.bind_ok hF
    obtain ⟨p1, g1, hF⟩ := Res.bind_ok hF
    obtain ⟨p2, g2, hF⟩ := Res.bind_ok hF
    obtain ⟨c, g3, hF⟩ := Res.bind_ok hF
    cases hF
    cases hb
    exact ⟨_, q1.blV, hQ H' q0⟩
  · cases h

/-! ### calls of built-in functions -/
theorem blt_bi : ∀ b : Bi, b ≠ .join → ((biN b : String) : Str) ∈ bltNames
  | .len, _ => by decide +kernel | .abs, _ => by decide +kernel | .int, _ => by decide +kernel | .min2, _ => by decide +kernel | .max2, _ => by decide +kernel | .tuple, _ => by decide +kernel | .list, _ => by decide +kernel | .sorted, _ => by decide +kernel | .sum, _ => by decide +kernel | .join, h => (h rfl).elim
theorem bltN {x : Str} (h : x ∈ bltNames) : x ≠ ("__name__" : Str) ∧ (x == ("__debug__" : Str)) = false := by
  have all : ∀ x ∈ bltNames, x ≠ ("__name__" : Str) ∧ (x == ("__debug__" : Str)) = false := by decide +kernel
  exact all x h
theorem snd_bi (o : XOk gi G tabs N sc ts k X) {b : Bi} {es : Es} {x : Expr} (h : okE gi N sc (.bi b es) x = true) (ih : ∀ l, okEs gi N sc es l = true → SA tabs X l (runEs G es)) : SE tabs X x (runE G (.bi b es)) := fun B hB => by
  simp only [okE] at h
  cases e : asCall x with
  | none => rw [e] at h; cases h
  | some z =>
    obtain ⟨f, l⟩ := z
    rw [e] at h
    simp only [Bool.and_eq_true, decide_eq_true_eq, Bool.not_eq_true'] at h
    obtain ⟨p, pos, rfl⟩ := asCall_some e
    obtain ⟨⟨⟨⟨hb, rfl⟩, h1⟩, h2⟩, h3⟩ := h
    cases l with
    | nil => simp at h2
    | cons y l =>
      have hs : isStar y = false := by
        cases es with
        | nil => simp [okEs] at h3
        | cons e' es' =>
          simp only [okEs, Bool.and_eq_true, Bool.not_eq_true'] at h3
          exact h3.1.1
      have hst : ∀ pos, (backTo pos (starEach l X.env)).any (·.1) = false := fun pos => by
        cases es with
        | nil => simp [okEs] at h3
        | cons e' es' =>
          simp only [okEs, Bool.and_eq_true] at h3
          exact okEs_star h3.2
      obtain ⟨n1, n2⟩ := bltN (blt_bi b hb)
      have rd : ∀ σ H Q, tE X.K B (runE G (.bi b es)) σ H Q → tCB (arD X.K (dBi b)) (tAs X.K B (runEs G es)) σ H Q := fun σ H Q q => by
        refine readA ?_
        simpa only [runE] using q
      have bb := biB b hb
      have cc := cad (X := X) o.hu o.calm b hb
      have bl := o.blt _ (blt_bi b hb)
      cases b with
      | int => exact (pe_callTy cc (o.gl h1) bl bb (ih _ h3 B hB) n1 n2 (star_of hs) (hst _)).imp rd
      | tuple => exact (pe_callTy cc (o.gl h1) bl bb (ih _ h3 B hB) n1 n2 (star_of hs) (hst _)).imp rd
      | list => exact (pe_callTy cc (o.gl h1) bl bb (ih _ h3 B hB) n1 n2 (star_of hs) (hst _)).imp rd
      | join => exact (hb rfl).elim
      | _ => exact (pe_callB cc (o.gl h1) bl bb (ih _ h3 B hB) n1 n2 (star_of hs) (hst _)).imp rd
theorem strs_of {K : PySem.W.Frag} {M : Addr → Prop} {H : Hp} : ∀ {ds : List D} {xs : List V} {ss : List (List Nat)}, dStrs ds = some ss → RpA K M H xs ds → xs = (ss.map mkS).map V.str
  | [], _, ns, h, .nil => by cases h; rfl
  | .str i :: ds, _, ns, h, .cons h1 h2 => by
    simp only [dStrs] at h
    cases q : dStrs ds with
    | none => rw [q] at h; cases h
    | some ms =>
      rw [q] at h
      cases h
      rw [h1.strV, strs_of q h2]; rfl
  | .non :: _, _, _, h, _ => by cases h
  | .bl _ :: _, _, _, h, _ => by cases h
  | .int _ :: _, _, _, h, _ => by cases h
  | .lst _ :: _, _, _, h, _ => by cases h
  | .tup _ :: _, _, _, h, _ => by cases h
  | .dct _ :: _, _, _, h, _ => by cases h
theorem sum_len : ∀ ss : List (List Nat), ((ss.map mkS).map (·.length)).sum = sumLen ss
  | [] => rfl
  | l :: r => by
    rw [List.map_cons, List.map_cons, List.sum_cons, sum_len r, mkS_len]; rfl
theorem mkS_app (a b : List Nat) : mkS a ++ mkS b = mkS (a ++ b) := by
  show (⟨a.toArray ++ b.toArray⟩ : Str) = ⟨(a ++ b).toArray⟩
  simp
theorem join_flat : ∀ ss : List (List Nat), Str.join (mkS []) (ss.map mkS) = mkS ss.flatten
  | [] => rfl
  | [l] => by show mkS l = mkS [l].flatten; simp
  | l :: m :: r => by
    have ih := join_flat (m :: r)
    show mkS l ++ mkS [] ++ Str.join (mkS []) ((m :: r).map mkS) = _
    rw [ih, mkS_app, mkS_app, List.append_nil]; rfl
theorem snd_joi {a b : E} {x : Expr} (h : okE gi N sc (.joi a b) x = true) (iha : ∀ y, okE gi N sc a y = true → SE tabs X y (runE G a)) (ihb : ∀ y, okE gi N sc b y = true → SE tabs X y (runE G b)) : SE tabs X x (runE G (.joi a b)) := fun B hB => by
  simp only [okE] at h
  split at h
  · rename_i oo m y e
    simp only [Bool.and_eq_true, decide_eq_true_eq, Bool.not_eq_true'] at h
    obtain ⟨apos, pos, rfl, hl1, hl2⟩ := asMeth_some e
    obtain ⟨⟨⟨rfl, hs⟩, h1⟩, h2⟩ := h
    have hbase : attributeBase oo ("join" : Str) X.env (eval oo X.env) = eval oo X.env := by
      cases oo <;> first | rfl | (simp [isCallE] at hl2)
    refine (pe_join (iha oo h1 B hB) (ihb y h2 B hB) (star_of hs) hbase hl1).imp fun σ H Q ⟨ρ, tt, vs, r, ρ', hR, hl, hF, hQ⟩ => ?_
    simp only [runE] at hF
    obtain ⟨⟨ra, ρ1⟩, g1, hF⟩ := Res.bind_ok hF
    obtain ⟨⟨rb, ρ2⟩, g2, hF⟩ := Res.bind_ok hF
    obtain ⟨d, g3, hF⟩ := Res.bind_ok hF
    have g3 : joinD ra.d rb.d = some d := Res.of_ok g3
    cases hF
    refine ⟨ρ, tt, vs, ra, ρ1, hR, hl, g1, fun x1 H1 R1 => ?_⟩
    have l1 : ρ1.length = σ.length := by have a := hR.len; have b := R1.len; simp at a b; omega
    obtain ⟨_, q1⟩ := R1.take1
    cases qa : ra.d with
    | str la =>
      rw [qa] at g3 q1
      cases la with
      | cons _ _ => cases g3
      | nil =>
        cases qb : rb.d with
        | lst ds =>
          rw [qb] at g3
          simp only [joinD] at g3
          cases qs : dStrs ds with
          | none => rw [qs] at g3; cases g3
          | some ss =>
            rw [qs] at g3
            by_cases hz : lineOk (sumLen ss) = true
            · simp only [hz, if_true] at g3
              cases g3
              refine ⟨⟨_, q1.strV⟩, ρ1, tt ++ [ra.sl], vs ++ [some x1], rb, ρ2, by simpa using R1, l1, g2, fun x2 H2 R2 => ?_⟩
              have R2' : R X.K B ((ρ2 ++ tt) ++ [ra.sl] ++ [rb.sl]) ((σ ++ vs) ++ [some x1] ++ [some x2]) H2 := by simpa using R2
              obtain ⟨q0, q1', q2⟩ := R2'.take2
              rw [qb] at q2
              obtain ⟨pp, xs, rfl, k1, k2, k3⟩ := q2.lstV
              have k4 := strs_of qs k3
              subst k4
              refine ⟨mkS [], pp, ss.map mkS, q1.strV, rfl, .inl (.inl (.inl k1)), ?_, ?_⟩
              · rw [sum_len, show (mkS []).length = 0 from rfl, Nat.mul_zero, Nat.add_zero]
                exact of_decide_eq_true hz
              · rw [TL.join_eq, join_flat]
                exact hQ _ H2 (q0.push_val (.str _))
            · simp only [hz] at g3; cases g3
        | tup ds =>
          rw [qb] at g3
          simp only [joinD] at g3
          cases qs : dStrs ds with
          | none => rw [qs] at g3; cases g3
          | some ss =>
            rw [qs] at g3
            by_cases hz : lineOk (sumLen ss) = true
            · simp only [hz, if_true] at g3
              cases g3
              refine ⟨⟨_, q1.strV⟩, ρ1, tt ++ [ra.sl], vs ++ [some x1], rb, ρ2, by simpa using R1, l1, g2, fun x2 H2 R2 => ?_⟩
              have R2' : R X.K B ((ρ2 ++ tt) ++ [ra.sl] ++ [rb.sl]) ((σ ++ vs) ++ [some x1] ++ [some x2]) H2 := by simpa using R2
              obtain ⟨q0, q1', q2⟩ := R2'.take2
              rw [qb] at q2
              obtain ⟨pp, xs, rfl, k1, k3⟩ := q2.tupV
              have k4 := strs_of qs k3
              subst k4
              refine ⟨mkS [], pp, ss.map mkS, q1.strV, rfl, .inr k1, ?_, ?_⟩
              · rw [sum_len, show (mkS []).length = 0 from rfl, Nat.mul_zero, Nat.add_zero]
                exact of_decide_eq_true hz
              · rw [TL.join_eq, join_flat]
                exact hQ _ H2 (q0.push_val (.str _))
            · simp only [hz] at g3; cases g3
        | _ => rw [qb] at g3; cases g3
    | _ => rw [qa] at g3; cases g3
  · cases h
end
end Gw

set_option Elab.async false
set_option linter.all false
set_option maxRecDepth 100000
set_option maxHeartbeats 2000000
/-! The value layer, part 10: calls of defs. -/
namespace Gw
open PySem L2
section
variable {gi : GI} {G : Glo} {tabs : List Addr} {N : List Str} {sc ts : Scope} {k : Nat} {X : Cx}
theorem get_map {α β : Type} {f : α → β} {l : List α} {j : Nat} {y : β} (h : (l.map f)[j]? = some y) : ∃ x, l[j]? = some x ∧ f x = y := by
  rw [List.getElem?_map] at h
  cases e : l[j]? with
  | none => rw [e] at h; cases h
  | some x => rw [e] at h; exact ⟨x, rfl, Option.some.inj h⟩
theorem RpA.at {K : PySem.W.Frag} {M : Addr → Prop} {H : Hp} {vs : List V} {ds : List D} (h : RpA K M H vs ds) {j : Nat} {d : D} (e : ds[j]? = some d) : ∃ v, (vs.map some)[j]? = some (some v) ∧ Rp K M H v d := by
  obtain ⟨v, h1, h2⟩ := h.get e
  exact ⟨v, by rw [List.getElem?_map, h1]; rfl, h2⟩
/-- the callee's own start: values alone -/
theorem R.entry {K : PySem.W.Frag} {B : Bs} {ss : List Sl} {vs : List (Option V)} {H : Hp} (hR : R K B ss vs H) {us : List V} {ds : List D} (h : RpA K (Mt B.Z ss vs) H us ds) :
    R K ⟨H, none, B.tabs, Mt B.Z ss vs, fun _ => none⟩ (ds.map Sl.val) (us.map some) H := by
  have mm : ∀ a, Mt (Mt B.Z ss vs) (ds.map Sl.val) (us.map some) a → Mt B.Z ss vs a := fun a m => m.elim (fun h => h) fun ⟨j, s, h1, h2, _⟩ => by
    obtain ⟨d, _, rfl⟩ := get_map h1
    exact h2.elim
  refine ⟨by simp [h.len], fun j d e => ?_, fun j d e => ?_, fun j d e => ?_, fun j a e => (by cases j <;> cases e), fun i j s t a h1 _ o1 => ?_, ⟨fun a o h _ _ => h, fun a ps h => ⟨ps, h⟩⟩, hR.tab, fun a ha => hR.mt_some ha, fun j s a h1 o1 => ?_, fun a o h => by cases h⟩
  · obtain ⟨d', h1, h2⟩ := get_map e
    cases h2
    obtain ⟨v, h3, h4⟩ := h.at h1
    exact ⟨v, h3, rp_congr mm h4⟩
  · obtain ⟨d', _, h2⟩ := get_map e; cases h2
  · obtain ⟨d', _, h2⟩ := get_map e; cases h2
  · obtain ⟨d', _, rfl⟩ := get_map h1; exact o1.elim
  · obtain ⟨d', _, rfl⟩ := get_map h1; exact o1.elim
/-- back in the caller -/
theorem R.back {K : PySem.W.Frag} {B : Bs} {ss : List Sl} {vs : List (Option V)} {H H' : Hp} (hR : R K B ss vs H) {ps : List Sl} {us : List (Option V)} {d : Rv} {v : V}
    (h : R K ⟨H, none, B.tabs, Mt B.Z ss vs, fun _ => none⟩ (ps ++ [d.sl]) (us ++ [some v]) H') : R K B (ss ++ [d.sl]) (vs ++ [some v]) H' := by
  have g : Grow B.tabs H H' := ⟨fun a o q n => h.ext.stay a o q (fun ⟨j, e⟩ => by cases j <;> cases e) n, fun a ps q => h.ext.tbl a ps q, fun a ha _ => h.tab a ha⟩
  have hl : ps.length = us.length := by have := h.len; simp at this; exact this
  cases d with
  | val d =>
    refine (hR.grow g).push_val ?_
    obtain ⟨w, h1, h2⟩ := h.val ps.length d (getEnd _ _)
    rw [hl, getEnd] at h1
    cases h1
    exact rp_congr (fun a m => .inl m) h2
  | own d =>
    obtain ⟨a, h1, h2, h3⟩ := h.own ps.length d (getEnd _ _)
    have h1' := h1
    rw [hl, getEnd] at h1
    cases h1
    refine hR.push_own2 h3 g (own_congr (fun b m => ?_) h2)
    rcases (mt_push_own hR.len).mp m with m | rfl
    · exact .inl m
    · exact .inr ⟨ps.length, _, getEnd _ _, trivial, h1'⟩
theorem snd_cal (o : XOk gi G tabs N sc ts k X) {f : Nat} {es : Es} {x : Expr} (h : okE gi N sc (.cal f es) x = true) (ih : ∀ l, okEs gi N sc es l = true → SA tabs X l (runEs G es)) : SE tabs X x (runE G (.cal f es)) := fun B hB => by
  simp only [okE] at h
  cases e : asCall x with
  | none => rw [e] at h; cases h
  | some z =>
    obtain ⟨g, l⟩ := z
    rw [e] at h
    simp only [Bool.and_eq_true, decide_eq_true_eq, Bool.not_eq_true'] at h
    obtain ⟨p, pos, rfl⟩ := asCall_some e
    obtain ⟨⟨⟨hf, h1⟩, h2⟩, h3⟩ := h
    cases l with
    | nil => simp at h2
    | cons y l =>
      have hs : isStar y = false := by
        cases es with
        | nil => simp [okEs] at h3
        | cons e' es' =>
          simp only [okEs, Bool.and_eq_true, Bool.not_eq_true'] at h3
          exact h3.1.1
      have hst : ∀ pos, (backTo pos (starEach l X.env)).any (·.1) = false := fun pos => by
        cases es with
        | nil => simp [okEs] at h3
        | cons e' es' =>
          simp only [okEs, Bool.and_eq_true] at h3
          exact okEs_star h3.2
      obtain ⟨db, a, fd, ps, m1, m2, m3, m4⟩ := o.fn f g hf
      refine (pe_call m4 o.room (o.gl h1) m1 m2 m3 .nil pass0 (ih _ h3 B hB) db (star_of hs) (hst _)).imp fun σ H Q ⟨ρ, tt, vs, r, ρ', hR, hl, hF, hQ⟩ => ?_
      simp only [runE] at hF
      obtain ⟨⟨rs, ρ1⟩, g1, hF⟩ := Res.bind_ok hF
      obtain ⟨⟨d, ps'⟩, g2, hF⟩ := Res.bind_ok hF
      cases hF
      refine ⟨ρ, tt, vs, rs, ρ1, hR, hl, g1, fun us H1 hu R1 => ?_⟩
      have e1 : (ρ1 ++ tt).length = (σ ++ vs).length := by have a := hR.len; have b := R1.len; simp at a b ⊢; omega
      obtain ⟨q0, q1⟩ := R1.takeAll e1
      show spF X.K tabs (G.fn f) (us ++ []) H1 Q E0
      rw [List.append_nil]
      refine ⟨⟨H1, none, B.tabs, Mt B.Z (ρ1 ++ tt) (σ ++ vs), fun _ => none⟩, (rs.map Rv.d).map Sl.val, d, ps', rfl, hB, q0.entry q1, ?_, ?_, fun v H' R' => ?_⟩
      · intro s hs d' e
        obtain ⟨d2, _, rfl⟩ := List.mem_map.mp hs
        cases e
      · rw [List.map_map]; exact g2
      · exact hQ v H' (q0.back R')

/-! ### one container by reference -/
theorem snd_car (o : XOk gi G tabs N sc ts k X) {f i : Nat} {es : Es} {x : Expr} (h : okE gi N sc (.car f i es) x = true) (ih : ∀ l, okEs gi N sc es l = true → SA tabs X l (runEs G es)) : SE tabs X x (runE G (.car f i es)) := fun B hB => by
  simp only [okE] at h
  split at h
  · rename_i g y l e
    simp only [Bool.and_eq_true, decide_eq_true_eq] at h
    obtain ⟨p, pos, rfl⟩ := asCall_some e
    obtain ⟨⟨⟨hf, h1⟩, h2⟩, h3⟩ := h
    have hs : isStar y = false := (okV_set h2).2
    obtain ⟨db, a0, fd, ps, m1, m2, m3, m4⟩ := o.fn f g hf
    refine (pe_call m4 o.room (o.gl h1) m1 m2 m3 .nil pass0 (pa_cons (o.var h2) (ih _ h3 B hB) (star_of hs)) db (star_of hs) (okEs_star h3)).imp fun σ H Q ⟨ρ, tt, vs, r, ρ', hR, hl, hF, hQ⟩ => ?_
    simp only [runE] at hF
    obtain ⟨c0, g0, hF⟩ := Res.bind_ok hF
    obtain ⟨⟨rs, ρ1⟩, g1, hF⟩ := Res.bind_ok hF
    obtain ⟨v0, hv0, _⟩ := hR.read hl (Res.of_ok g0)
    refine ⟨v0, hv0, ρ, tt, vs, rs, ρ1, hR, hl, g1, fun us H1 hu R1 => ?_⟩
    have e1 : (ρ1 ++ tt).length = (σ ++ vs).length := by have a := hR.len; have b := R1.len; simp at a b ⊢; omega
    have l1 : ρ1.length = σ.length := by have a := hR.len; simp at a e1; omega
    obtain ⟨q0, q1⟩ := R1.takeAll e1
    show spF X.K tabs (G.fn f) (v0 :: us ++ []) H1 Q E0
    rw [List.append_nil]
    -- the slot, its container
    have key : ∀ (s s2 : D → Sl) (c : D), (s = Sl.own ∨ s = Sl.ref) → ρ1.at i = s c → ∀ (d : Rv) (ps' : List Sl) (c' : D) (rest : List Sl), G.fn f (.ref c :: rs.map fun r => .val r.d) = .ok (d, ps') → ps' = .ref c' :: rest → r = .val d.d → ρ' = ρ1.set i (s c') →
        spF X.K tabs (G.fn f) (v0 :: us) H1 Q E0 := fun s s2 c hs hi d ps' c' rest hG hp hr hρ => by
      subst hr hρ
      have hne : s c ≠ .no := by rcases hs with rfl | rfl <;> (intro z; cases z)
      have gi1 := at_some hi hne
      have hilt := lt_of_get gi1
      obtain ⟨a, hva, hoa⟩ : ∃ a, (σ ++ vs)[i]? = some (some (.ref a)) ∧ OwnAt X.K (Mt B.Z (ρ1 ++ tt) (σ ++ vs)) H1 a c := by
        rcases hs with rfl | rfl
        · obtain ⟨a, k1, k2, _⟩ := q0.own i c (getL gi1); exact ⟨a, k1, k2⟩
        · obtain ⟨a, _, k1, k2⟩ := q0.ref i c (getL gi1); exact ⟨a, k1, k2⟩
      have hso : (s c).isOwn := by rcases hs with rfl | rfl <;> exact trivial
      have ev : v0 = .ref a := by
        rw [get_left (by omega), hv0] at hva
        cases hva; rfl
      subst ev
      have ma : Mt B.Z (ρ1 ++ tt) (σ ++ vs) a := .inr ⟨i, _, getL gi1, hso, hva⟩
      let Z' : Addr → Prop := fun b => Mt B.Z (ρ1 ++ tt) (σ ++ vs) b ∧ b ≠ a
      let B' : Bs := ⟨H1, some a, B.tabs, Z', fun _ => none⟩
      have mm : ∀ b, Mt Z' (Sl.ref c :: (rs.map Rv.d).map Sl.val) (some (V.ref a) :: us.map some) b → Mt B.Z (ρ1 ++ tt) (σ ++ vs) b := fun b m => m.elim (fun h => h.1) fun ⟨j, t, k1, k2, k3⟩ => by
        cases j with
        | zero => cases k3; exact ma
        | succ j =>
          obtain ⟨d', _, rfl⟩ := get_map (show ((rs.map Rv.d).map Sl.val)[j]? = some t from k1)
          exact k2.elim
      have RE : R X.K B' (Sl.ref c :: (rs.map Rv.d).map Sl.val) (some (V.ref a) :: us.map some) H1 := by
        refine ⟨by simp [hu], fun j d e => ?_, fun j d e => ?_, fun j d e => ?_, fun j b e => ?_, fun i1 j s1 t1 b k1 k2 o1 o2 _ _ => ?_, ⟨fun a o h _ _ => h, fun a ps h => ⟨ps, h⟩⟩, q0.tab, fun b hb => q0.mt_some hb.1, fun j s1 b k1 o1 k3 => ?_, fun a o h => by cases h⟩
        · cases j with
          | zero => cases e
          | succ j =>
            obtain ⟨d', k1, k2⟩ := get_map (show ((rs.map Rv.d).map Sl.val)[j]? = some (Sl.val d) from e)
            cases k2
            obtain ⟨v, k3, k4⟩ := q1.at k1
            exact ⟨v, k3, rp_congr mm k4⟩
        · cases j with
          | zero => cases e
          | succ j =>
            obtain ⟨d', k1, k2⟩ := get_map (show ((rs.map Rv.d).map Sl.val)[j]? = some (Sl.own d) from e)
            cases k2
        · cases j with
          | zero =>
            cases e
            exact ⟨a, rfl, rfl, own_congr mm hoa⟩
          | succ j =>
            obtain ⟨d', k1, k2⟩ := get_map (show ((rs.map Rv.d).map Sl.val)[j]? = some (Sl.ref d) from e)
            cases k2
        · cases j with
          | zero => exact ⟨c, rfl⟩
          | succ j => cases e
        · have z : ∀ {j : Nat} {t : Sl}, (Sl.ref c :: (rs.map Rv.d).map Sl.val)[j]? = some t → t.isOwn → j = 0 := fun {j t} k1 k2 => by
            cases j with
            | zero => rfl
            | succ j =>
              obtain ⟨d', _, rfl⟩ := get_map (show ((rs.map Rv.d).map Sl.val)[j]? = some t from k1)
              exact k2.elim
          rw [z k1 o1, z k2 o2]
        · cases j with
          | zero => cases k3; exact fun h => h.2 rfl
          | succ j =>
            obtain ⟨d', _, rfl⟩ := get_map (show ((rs.map Rv.d).map Sl.val)[j]? = some s1 from k1)
            exact o1.elim
      refine ⟨B', Sl.ref c :: (rs.map Rv.d).map Sl.val, d, ps', rfl, hB, RE, ?_, ?_, fun v H' R' => ?_⟩
      · intro s1 hs1 d' e
        rcases List.mem_cons.mp hs1 with rfl | hs1
        · cases e
        · obtain ⟨d2, _, rfl⟩ := List.mem_map.mp hs1
          cases e
      · rw [List.map_map]; exact hG
      · subst hp
        have R' := R'.frzTop
        have R' : R X.K B' (Sl.ref c' :: (rest.map onlyRef ++ [.val d.d])) (some (V.ref a) :: (us.map some ++ [some v])) H' := by simpa [onlyRef] using R'
        obtain ⟨a', ea, ev', hoa'⟩ := R'.ref 0 c' rfl
        cases ev'
        have nP : ∀ b, B'.P b → b = a := fun b ⟨j, e⟩ => by
          cases j with
          | zero => cases e; rfl
          | succ j => cases e
        have mm2 : ∀ b, Mt B.Z (ρ1 ++ tt) (σ ++ vs) b → Mt B'.Z (Sl.ref c' :: (rest.map onlyRef ++ [.val d.d])) (some (V.ref a) :: (us.map some ++ [some v])) b := fun b m => by
          by_cases e : b = a
          · subst e; exact .inr ⟨0, _, rfl, trivial, rfl⟩
          · exact .inl ⟨m, e⟩
        have q2 := q0.mutateG (i := i) (s := s c) (s' := s c') (d := c) (d' := c') (a := a) (H' := H') (getL gi1) (by rcases hs with rfl | rfl; exact .inl ⟨rfl, rfl⟩; exact .inr ⟨rfl, rfl⟩) hva
          (fun b o hb ne t => R'.ext.stay b o hb (fun hP => ne (nP b hP)) t) (fun b ps hb => R'.ext.tbl b ps hb) (fun b hb _ => R'.tab b hb) (own_congr mm2 hoa')
        rw [set_left hilt] at q2
        refine hQ v H' (q2.push_val (d := d.d) ?_)
        have hl2 : rest.length = us.length := by have := R'.len; simp at this; exact this
        obtain ⟨w, k1, k2⟩ := R'.val (rest.length + 1) d.d (by
          show (rest.map onlyRef ++ [Sl.val d.d])[rest.length]? = _
          rw [show rest.length = (rest.map onlyRef).length by simp]; exact getEnd _ _)
        have k1 : (us.map some ++ [some v])[rest.length]? = some (some w) := k1
        rw [hl2, show us.length = (us.map some).length by simp, getEnd] at k1
        cases k1
        refine rp_congr (fun b m => ?_) k2
        refine mm2 b ?_
        refine m.elim .inl fun ⟨j, t, k3, k4, k5⟩ => ?_
        rw [← set_left hilt] at k3
        rcases getSet k3 with ⟨rfl, rfl⟩ | ⟨_, k3⟩
        · exact .inr ⟨j, _, getL gi1, hso, k5⟩
        · exact .inr ⟨j, t, k3, k4, k5⟩
    cases ei : ρ1.at i with
    | no => rw [show (rs, ρ1).2.at i = ρ1.at i from rfl, ei] at hF; cases hF
    | val d => rw [show (rs, ρ1).2.at i = ρ1.at i from rfl, ei] at hF; cases hF
    | own c =>
      rw [show (rs, ρ1).2.at i = ρ1.at i from rfl, ei] at hF
      obtain ⟨⟨d, ps'⟩, g2, hF⟩ := Res.bind_ok hF
      cases ps' with
      | nil => cases hF
      | cons s0 rest =>
        cases s0 with
        | ref c' => cases hF; exact key Sl.own Sl.own c (.inl rfl) ei d _ c' rest g2 rfl rfl rfl
        | _ => cases hF
    | ref c =>
      rw [show (rs, ρ1).2.at i = ρ1.at i from rfl, ei] at hF
      obtain ⟨⟨d, ps'⟩, g2, hF⟩ := Res.bind_ok hF
      cases ps' with
      | nil => cases hF
      | cons s0 rest =>
        cases s0 with
        | ref c' => cases hF; exact key Sl.ref Sl.ref c (.inr rfl) ei d _ c' rest g2 rfl rfl rfl
        | _ => cases hF
  · cases h
end
end Gw

set_option Elab.async false
set_option linter.all false
set_option maxRecDepth 100000
set_option maxHeartbeats 2000000
/-! The value layer, part 11: what is walked. -/
namespace Gw
open PySem L2
section
variable {K : PySem.W.Frag} {B : Bs} {ss ss' : List Sl} {vs vs' : List (Option V)} {H : Hp}
/-- slots chosen anew, each once -/
theorem R.sel (r : R K B ss vs H) (f : Nat → Nat) (hl : ss'.length = vs'.length) (hs : ∀ (j : Nat) (s : Sl), ss'[j]? = some s → s = .no ∨ (ss[f j]? = some s ∧ vs'[j]? = vs[f j]?))
    (hinj : ∀ (i j : Nat) (s t : Sl), ss'[i]? = some s → ss'[j]? = some t → s.isOwn → t.isOwn → f i = f j → i = j) (href : ∀ (j : Nat) (d : D), ss'[j]? = some (.ref d) → f j = j)
    (hpin : ∀ (j : Nat) (d : D), ss[j]? = some (.ref d) → ss'[j]? = some (.ref d)) : R K B ss' vs' H := by
  have own : ∀ {j : Nat} {s : Sl}, ss'[j]? = some s → s.isOwn → ss[f j]? = some s ∧ vs'[j]? = vs[f j]? := fun {j s} h o => by
    rcases hs j s h with rfl | h
    · exact o.elim
    · exact h
  have mm : ∀ a, Mt B.Z ss' vs' a → Mt B.Z ss vs a := fun a m => m.elim .inl fun ⟨j, s, h1, h2, h3⟩ => by
    obtain ⟨g1, g2⟩ := own h1 h2
    exact .inr ⟨f j, s, g1, h2, g2 ▸ h3⟩
  refine ⟨hl, fun j d h => ?_, fun j d h => ?_, fun j d h => ?_, fun j a h => ?_, fun i j s t a h1 h2 o1 o2 h3 h4 => ?_, r.ext, r.tab, r.zed, fun j s a h1 o1 h3 => ?_, r.fix⟩
  · rcases hs j _ h with e | ⟨g1, g2⟩
    · cases e
    · obtain ⟨v, h1, h2⟩ := r.val _ d g1
      exact ⟨v, g2.trans h1, rp_congr mm h2⟩
  · obtain ⟨g1, g2⟩ := own h trivial
    obtain ⟨a, h1, h2, h3⟩ := r.own _ d g1
    exact ⟨a, g2.trans h1, own_congr mm h2, h3⟩
  · obtain ⟨g1, g2⟩ := own h trivial
    obtain ⟨a, h0, h1, h2⟩ := r.ref _ d g1
    rw [href j d h] at h0
    exact ⟨a, h0, g2.trans h1, own_congr mm h2⟩
  · obtain ⟨d, h1⟩ := r.pin j a h
    exact ⟨d, hpin j d h1⟩
  · obtain ⟨g1, g2⟩ := own h1 o1
    obtain ⟨g3, g4⟩ := own h2 o2
    exact hinj i j s t h1 h2 o1 o2 (r.sep _ _ s t a g1 g3 o1 o2 (g2 ▸ h3) (g4 ▸ h4))
  · obtain ⟨g1, g2⟩ := own h1 o1
    exact r.sepZ _ s a g1 o1 (g2 ▸ h3)
theorem R.push_no (r : R K B ss vs H) (v : Option V) : R K B (ss ++ [.no]) (vs ++ [v]) H := by
  refine r.sel (fun j => j) (by simp [r.len]) (fun j s h => ?_) (fun i j _ _ _ _ _ _ e => e) (fun _ _ _ => rfl) fun j d h => getL h
  rcases get1 h with ⟨hj, h⟩ | ⟨_, e⟩
  · refine .inr ⟨h, ?_⟩
    rw [List.getElem?_append_left (by rw [← r.len]; exact hj)]
  · exact .inl e
theorem R.drop_mid {s : Sl} {v : Option V} {ts : List Sl} {ws : List (Option V)} (r : R K B (ss ++ [s] ++ ts) (vs ++ [v] ++ ws) H) (hl : ss.length = vs.length) (hs : ∀ d, s ≠ .ref d) (ht : ∀ t ∈ ts, ∀ d, t ≠ .ref d) : R K B (ss ++ ts) (vs ++ ws) H := by
  have hw : ts.length = ws.length := by have := r.len; simp at this; omega
  refine r.sel (fun j => if j < ss.length then j else j + 1) (by simp [hl, hw]) (fun j t h => .inr ?_) (fun i j _ _ _ _ _ _ e => ?_) (fun j d h => ?_) fun j d h => ?_
  · rcases getA h with ⟨hj, h1⟩ | ⟨hj, h1⟩
    · simp only [hj, if_true]
      rw [List.append_assoc, List.getElem?_append_left hj]
      refine ⟨h1, ?_⟩
      rw [List.append_assoc, List.getElem?_append_left (by omega), List.getElem?_append_left (by omega)]
    · have hj' : ¬ j < ss.length := by omega
      simp only [hj', if_false]
      refine ⟨?_, ?_⟩
      · rw [List.getElem?_append_right (by simp; omega)]
        simp only [List.length_append, List.length_singleton]
        rw [show j + 1 - (ss.length + 1) = j - ss.length by omega]
        exact h1
      · rw [List.getElem?_append_right (by omega), List.getElem?_append_right (by simp; omega)]
        simp only [List.length_append, List.length_singleton]
        rw [show j + 1 - (vs.length + 1) = j - vs.length by omega]
  · split at e <;> split at e <;> omega
  · rcases getA h with ⟨hj, h1⟩ | ⟨hj, h1⟩
    · simp only [hj, if_true]
    · exact (ht _ (List.mem_of_getElem? h1) d rfl).elim
  · rw [List.append_assoc] at h
    rcases getA h with ⟨hj, h1⟩ | ⟨hj, h1⟩
    · exact getL h1
    · rcases getA h1 with ⟨hj2, h2⟩ | ⟨hj2, h2⟩
      · have := List.mem_of_getElem? h2
        simp at this
        exact (hs d this.symm).elim
      · exact (ht _ (List.mem_of_getElem? h2) d rfl).elim
/-- other values at slots of which nothing is said -/
theorem R.unwipe (r : R K B ss vs H) (hl : vs'.length = vs.length) (h : ∀ j : Nat, vs'[j]? = vs[j]? ∨ ss[j]? = some .no) : R K B ss vs' H := by
  refine r.sel (fun j => j) (by rw [hl]; exact r.len) (fun j s h1 => ?_) (fun i j _ _ _ _ _ _ e => e) (fun _ _ _ => rfl) fun j d h => h
  rcases h j with h | h
  · exact .inr ⟨h1, h⟩
  · rw [h] at h1; cases h1; exact .inl rfl
/-- an own container goes to the top -/
theorem R.moveOut {i : Nat} {d : D} {v : Option V} (r : R K B ss vs H) (h : ss[i]? = some (.own d)) (hv : vs[i]? = some v) : R K B (ss.set i .no ++ [.own d]) (vs ++ [v]) H := by
  have hi := lt_of_get h
  refine r.sel (fun j => if j = ss.length then i else j) (by simp [r.len]) (fun j s h1 => ?_) (fun a b s t h1 h2 o1 o2 e => ?_) (fun j e h1 => ?_) fun j e h1 => ?_
  · rcases get1 h1 with ⟨hj, h1⟩ | ⟨hj, rfl⟩
    · simp only [List.length_set] at hj
      rw [if_neg (by omega)]
      rcases getSet h1 with ⟨_, rfl⟩ | ⟨_, h1⟩
      · exact .inl rfl
      · exact .inr ⟨h1, by rw [List.getElem?_append_left (by rw [← r.len]; exact hj)]⟩
    · simp only [List.length_set] at hj
      rw [if_pos hj]
      refine .inr ⟨h, ?_⟩
      rw [hj, r.len, getEnd, hv]
  · rcases get1 h1 with ⟨ha, h1⟩ | ⟨ha, rfl⟩ <;> rcases get1 h2 with ⟨hb, h2⟩ | ⟨hb, rfl⟩ <;> simp only [List.length_set] at ha hb
    · rw [if_neg (by omega), if_neg (by omega)] at e; exact e
    · rw [if_neg (by omega), if_pos hb] at e
      subst e
      rw [List.getElem?_set_self hi] at h1
      cases h1; exact o1.elim
    · rw [if_pos ha, if_neg (by omega)] at e
      subst e
      rw [List.getElem?_set_self hi] at h2
      cases h2; exact o2.elim
    · omega
  · rcases get1 h1 with ⟨hj, h1⟩ | ⟨hj, e⟩
    · simp only [List.length_set] at hj
      rw [if_neg (by omega)]
    · cases e
  · have hj := lt_of_get h1
    by_cases e2 : i = j
    · subst e2; rw [h] at h1; cases h1
    · refine getL ?_
      rw [List.getElem?_set_ne e2]; exact h1
/-- a store: the last one goes to slot i -/
theorem R.store {i : Nat} {s t : Sl} {v : Option V} (r : R K B (ss ++ [s]) (vs ++ [v]) H) (hs : ∀ d, s ≠ .ref d) (h : ss[i]? = some t) (ht : ∀ d, t ≠ .ref d) : R K B (ss.set i s) (vs.set i v) H := by
  have hl : ss.length = vs.length := by have := r.len; simp at this; exact this
  have hi := lt_of_get h
  have r1 : R K B (ss.set i .no ++ [s]) (vs ++ [v]) H := by
    refine r.sel (fun j => j) (by simp [hl]) (fun j s' h1 => ?_) (fun i j _ _ _ _ _ _ e => e) (fun _ _ _ => rfl) fun j d h1 => ?_
    · rcases get1 h1 with ⟨hj, h1⟩ | ⟨hj, rfl⟩
      · simp only [List.length_set] at hj
        rcases getSet h1 with ⟨_, rfl⟩ | ⟨_, h1⟩
        · exact .inl rfl
        · exact .inr ⟨getL h1, rfl⟩
      · simp only [List.length_set] at hj
        exact .inr ⟨by rw [hj]; exact getEnd _ _, rfl⟩
    · rcases get1 h1 with ⟨hj, h1⟩ | ⟨_, e⟩
      · refine getL ?_
        by_cases e2 : i = j
        · subst e2; rw [h] at h1; exact (ht d (Option.some.inj h1)).elim
        · rw [List.getElem?_set_ne e2]; exact h1
      · exact (hs d e.symm).elim
  have r2 := r1.moveIn hs (List.getElem?_set_self hi)
  rw [List.set_set] at r2
  exact r2
end

/-! ### walks -/
structure Wk (K : PySem.W.Frag) (B : Bs) (J : It) (ds : List D) (s : Sl) (v : Option V) : Prop where
  go : ∀ (i : Nat) ss vs H, i < ds.length → ss.length = List.length vs → R K B (ss ++ [s]) (vs ++ [v]) H → J.go i H
  stop : ∀ ss vs H, ss.length = List.length vs → R K B (ss ++ [s]) (vs ++ [v]) H → J.stop ds.length H
  yld : ∀ (i : Nat) ss vs H x H' d, ds[i]? = some d → ss.length = List.length vs → R K B (ss ++ [s]) (vs ++ [v]) H → J.yld i H x H' → R K B (ss ++ [s] ++ [.val d]) (vs ++ [v] ++ [some x]) H'
def Held (mv : Option (Nat × D)) (s : Sl) (v : Option V) (σ : List (Option V)) : Prop := match mv with
  | none => ∀ d, s ≠ .ref d
  | some (i, c) => s = .own c ∧ σ[i]? = some v
theorem Held.noref {mv : Option (Nat × D)} {s : Sl} {v : Option V} {σ : List (Option V)} (h : Held mv s v σ) : ∀ d, s ≠ .ref d := by
  cases mv with
  | none => exact h
  | some p => obtain ⟨rfl, _⟩ := h; intro d e; cases e
def iD (K : PySem.W.Frag) (B : Bs) (F : Env → Res (List D × Env × Option (Nat × D))) : TI := fun σ H Rr => ∃ (ρ : Env) (ts : List Sl) (vs : List (Option V)) (ds : List D) (ρ' : Env) (mv : Option (Nat × D)),
  R K B (ρ ++ ts) (σ ++ vs) H ∧ ρ.length = σ.length ∧ F ρ = .ok (ds, ρ', mv) ∧ ∀ J H' s v, Held mv s v σ → R K B (ρ' ++ ts ++ [s]) (σ ++ vs ++ [v]) H' → (∀ B', Wk K B' J ds s v) → Rr J H'
def SI (tabs : List Addr) (X : Cx) (tg x : Expr) (F : Env → Res (List D × Env × Option (Nat × D))) : Prop := ∀ B : Bs, B.tabs = tabs → PI X tg x (iD X.K B F)
section
variable {K : PySem.W.Frag} {B : Bs} {ss : List Sl} {vs : List (Option V)} {H : Hp}
theorem R.topList {s : Sl} {ds : List D} {a : Addr} (r : R K B (ss ++ [s]) (vs ++ [some (.ref a)]) H) (hl : ss.length = vs.length) (hs : s = .val (.lst ds) ∨ s = .own (.lst ds)) : ∃ xs, H a = some (.lst xs) ∧ RpA K (Mt B.Z (ss ++ [s]) (vs ++ [some (.ref a)])) H xs ds := by
  rcases hs with rfl | rfl
  · obtain ⟨u, h1, h2⟩ := r.val ss.length _ (getEnd _ _)
    rw [hl, getEnd] at h1
    cases h1
    obtain ⟨a', xs, e, g1, _, g3⟩ := h2.lstV
    cases e
    exact ⟨xs, g1, g3⟩
  · obtain ⟨u, h1, h2, _⟩ := r.own ss.length _ (getEnd _ _)
    rw [hl, getEnd] at h1
    cases h1
    exact h2
theorem wk_list {s : Sl} {ds : List D} {a : Addr} (hs : s = .val (.lst ds) ∨ s = .own (.lst ds)) : Wk K B (Itl K a) ds s (some (.ref a)) where
  go := fun i ss vs H hi hl r => by
    obtain ⟨xs, h1, h2⟩ := r.topList hl hs
    obtain ⟨v, h3, _⟩ := h2.get (List.getElem?_eq_getElem hi)
    exact ⟨xs, v, .inl (.inl h1), h3⟩
  stop := fun ss vs H hl r => by
    obtain ⟨xs, h1, h2⟩ := r.topList hl hs
    exact ⟨xs, .inl (.inl h1), by rw [h2.len]; exact Nat.le_refl _⟩
  yld := fun i ss vs H x H' d hd hl r y => by
    obtain ⟨rfl, y⟩ := y
    obtain ⟨xs, h1, h2⟩ := r.topList hl hs
    have h3 := y xs (.inl (.inl h1))
    obtain ⟨v, h4, h5⟩ := h2.get hd
    rw [h3] at h4; cases h4
    exact r.push_val h5
theorem wk_tup {ds : List D} {a : Addr} : Wk K B (Itt K a) ds (.val (.tup ds)) (some (.ref a)) := by
  have top : ∀ {ss : List Sl} {vs : List (Option V)} {H : Hp}, ss.length = vs.length → R K B (ss ++ [.val (.tup ds)]) (vs ++ [some (.ref a)]) H → ∃ xs, SqT K H a xs ∧ RpA K (Mt B.Z (ss ++ [.val (.tup ds)]) (vs ++ [some (.ref a)])) H xs ds := fun {ss vs H} hl r => by
    obtain ⟨u, h1, h2⟩ := r.val ss.length _ (getEnd _ _)
    rw [hl, getEnd] at h1
    cases h1
    obtain ⟨a', xs, e, g1, g3⟩ := h2.tupV
    cases e
    exact ⟨xs, g1, g3⟩
  exact {
    go := fun i ss vs H hi hl r => by
      obtain ⟨xs, h1, h2⟩ := top hl r
      obtain ⟨v, h3, _⟩ := h2.get (List.getElem?_eq_getElem hi)
      exact ⟨xs, v, h1, h3⟩
    stop := fun ss vs H hl r => by
      obtain ⟨xs, h1, h2⟩ := top hl r
      exact ⟨xs, h1, by rw [h2.len]; exact Nat.le_refl _⟩
    yld := fun i ss vs H x H' d hd hl r y => by
      obtain ⟨rfl, y⟩ := y
      obtain ⟨xs, h1, h2⟩ := top hl r
      have h3 := y xs h1
      obtain ⟨v, h4, h5⟩ := h2.get hd
      rw [h3] at h4; cases h4
      exact r.push_val h5 }
theorem wk_str {l : List Nat} {s : Sl} {v : Option V} : Wk K B (Its (mkS l)) (signs l) s v where
  go := fun i ss vs H hi hl r => by
    show i < (mkS l).cps.size
    simpa [signs, mkS] using hi
  stop := fun ss vs H hl r => by
    show (mkS l).cps.size ≤ (signs l).length
    simp [signs, mkS]
  yld := fun i ss vs H x H' d hd hl r y => by
    obtain ⟨rfl, c, hc, rfl⟩ := y
    have : d = .str [c] := by
      unfold signs at hd
      rw [List.getElem?_map] at hd
      have hc' : l[i]? = some c := by simpa [mkS] using hc
      rw [hc'] at hd
      exact (Option.some.inj hd).symm
    subst this
    exact r.push_val (.str [c])
theorem wk_rng {lo : Int} {n : Nat} {s : Sl} {v : Option V} : Wk K B (Itr lo n) (ranged lo 1 n) s v where
  go := fun i ss vs H hi hl r => by
    show i < n
    simpa [ranged] using hi
  stop := fun ss vs H hl r => by
    show n ≤ (ranged lo 1 n).length
    simp [ranged]
  yld := fun i ss vs H x H' d hd hl r y => by
    obtain ⟨rfl, rfl⟩ := y
    have hi : i < n := by have := lt_of_get hd; simpa [ranged] using this
    have : d = .int (lo + i) := by
      unfold ranged at hd
      rw [List.getElem?_map, List.getElem?_range hi] at hd
      simpa using hd.symm
    subst this
    exact r.push_val (.int _)
theorem wk_rngC {lo c : Int} {n : Nat} {s : Sl} {v : Option V} : Wk K B (Itc lo c n) (ranged lo c n) s v where
  go := fun i ss vs H hi hl r => by
    show i < n
    simpa [ranged] using hi
  stop := fun ss vs H hl r => by
    show n ≤ (ranged lo c n).length
    simp [ranged]
  yld := fun i ss vs H x H' d hd hl r y => by
    obtain ⟨rfl, rfl⟩ := y
    have hi : i < n := by have := lt_of_get hd; simpa [ranged] using this
    have : d = .int (lo + (i : Int) * c) := by
      unfold ranged at hd
      rw [List.getElem?_map, List.getElem?_range hi] at hd
      simpa using hd.symm
    subst this
    exact r.push_val (.int _)
theorem wk_rev {s : Sl} {ds : List D} {a : Addr} {n : Nat} (hn : n = ds.length) (hs : s = .val (.lst ds) ∨ s = .own (.lst ds)) : Wk K B (Itv K a n) ds.reverse s (some (.ref a)) where
  go := fun i ss vs H hi hl r => by
    subst hn
    obtain ⟨xs, h1, h2⟩ := r.topList hl hs
    rw [List.length_reverse] at hi
    obtain ⟨v, h3, _⟩ := h2.get (List.getElem?_eq_getElem (show ds.length - 1 - i < ds.length by omega))
    exact ⟨hi, xs, v, .inl (.inl h1), h3⟩
  stop := fun ss vs H hl r => by
    subst hn
    show ds.length ≤ ds.reverse.length
    simp
  yld := fun i ss vs H x H' d hd hl r y => by
    subst hn
    obtain ⟨rfl, y⟩ := y
    obtain ⟨xs, h1, h2⟩ := r.topList hl hs
    have h3 := y xs (.inl (.inl h1))
    have hi : i < ds.length := by have := lt_of_get hd; simpa using this
    rw [List.getElem?_reverse hi] at hd
    obtain ⟨v, h4, h5⟩ := h2.get hd
    rw [h3] at h4; cases h4
    exact r.push_val h5
end
section
variable {gi : GI} {G : Glo} {tabs : List Addr} {N : List Str} {sc ts : Scope} {k : Nat} {X : Cx} {tg : Expr}
theorem snd_frz {e : E} {x : Expr} (h1 : SE tabs X x (runE G e)) : SI tabs X tg x (runI G (.frz e)) := fun B hB => by
  refine ⟨fun pins s σ H Rr I ⟨ρ, tt, vs, ds, ρ', mv, hR, hl, hF, hQ⟩ => ?_⟩
  simp only [runI] at hF
  obtain ⟨⟨r, ρ1⟩, g1, hF⟩ := Res.bind_ok hF
  obtain ⟨ds', g2, hF⟩ := Res.bind_ok hF
  have g2 : dItems r.d = some ds' := Res.of_ok g2
  cases hF
  have hn : Held none r.sl (none : Option V) σ := fun d => r.noref d
  have read : ∀ (Q : VK), (∀ v H', R X.K B (ρ1 ++ tt ++ [r.sl]) (σ ++ vs ++ [some v]) H' → Q v H') → tE X.K B (runE G e) σ H Q := fun Q hq => ⟨ρ, tt, vs, r, ρ1, hR, hl, g1, hq⟩
  cases q : r.d with
  | lst l =>
    rw [q] at g2
    cases g2
    have hs : r.sl = .val (.lst ds) ∨ r.sl = .own (.lst ds) := by
      cases r with
      | val d => left; show Sl.val d = _; rw [show d = D.lst ds from q]
      | own d => right; show Sl.own d = _; rw [show d = D.lst ds from q]
    refine (pi_list (h1 B hB)).run pins s σ H Rr I (read _ fun v H' R1 => ?_)
    obtain ⟨_, q1⟩ := R1.take1
    rw [q] at q1
    obtain ⟨a, xs, rfl, k1, _, k3⟩ := q1.lstV
    exact ⟨a, rfl, ⟨xs, .inl (.inl k1)⟩, hQ _ H' r.sl (some (.ref a)) (fun d => r.noref d) R1 (fun _ => wk_list hs)⟩
  | tup l =>
    rw [q] at g2
    cases g2
    have hs : r.sl = .val (.tup ds) ∨ r.sl = .own (.tup ds) := by
      cases r with
      | val d => left; show Sl.val d = _; rw [show d = D.tup ds from q]
      | own d => right; show Sl.own d = _; rw [show d = D.tup ds from q]
    refine (pi_tup (h1 B hB)).run pins s σ H Rr I (read _ fun v H' R1 => ?_)
    have R2 := R1.frzTop
    obtain ⟨_, q1⟩ := R1.take1
    rw [q] at q1 R2
    obtain ⟨a, xs, rfl, k1, k3⟩ := q1.tupV
    exact ⟨a, rfl, ⟨xs, k1⟩, hQ _ H' _ (some (.ref a)) (fun d e => by cases e) R2 (fun _ => wk_tup)⟩
  | str l =>
    rw [q] at g2
    cases g2
    refine (pi_str (h1 B hB)).run pins s σ H Rr I (read _ fun v H' R1 => ?_)
    obtain ⟨_, q1⟩ := R1.take1
    rw [q] at q1
    exact ⟨mkS l, q1.strV, hQ _ H' r.sl (some v) (fun d => r.noref d) R1 (fun _ => wk_str)⟩
  | _ => rw [q] at g2; cases g2
theorem snd_mov (o : XOk gi G tabs N sc ts k X) {i : Nat} {x : Expr} (h : okV N sc i x = true) : SI tabs X tg x (runI G (.mov i)) := fun B hB => by
  refine ⟨fun pins s σ H Rr I ⟨ρ, tt, vs, ds, ρ', mv, hR, hl, hF, hQ⟩ => ?_⟩
  simp only [runI] at hF
  split at hF
  · rename_i l hi
    cases hF
    have g := at_some hi (by intro z; cases z)
    have hlt := lt_of_get g
    obtain ⟨a, k1, k2, _⟩ := hR.own i _ (getL g)
    have k1' := k1
    rw [get_left (by omega)] at k1'
    obtain ⟨xs, k3, k4⟩ := k2
    refine (pi_list (o.var h)).run pins s σ H Rr I ⟨.ref a, k1', a, rfl, ⟨xs, .inl (.inl k3)⟩, ?_⟩
    have R1 := hR.moveOut (getL g) k1
    rw [set_left hlt] at R1
    exact hQ _ H (.own (.lst ds)) (some (.ref a)) ⟨rfl, k1'⟩ R1 (fun _ => wk_list (.inr rfl))
  · rename_i l hi
    cases hF
    have g := at_some hi (by intro z; cases z)
    have hlt := lt_of_get g
    obtain ⟨v, k1, k2⟩ := hR.val i _ (getL g)
    have k1' := k1
    rw [get_left (by omega)] at k1'
    have k2' := k2
    obtain ⟨a, xs, rfl, k3, _, k4⟩ := k2.lstV
    refine (pi_list (o.var h)).run pins s σ H Rr I ⟨.ref a, k1', a, rfl, ⟨xs, .inl (.inl k3)⟩, ?_⟩
    exact hQ _ H (.val (.lst ds)) (some (.ref a)) (fun d e => by cases e) (hR.push_val k2') (fun _ => wk_list (.inl rfl))
  · cases hF
theorem inR_iff {i : Int} (h : inR i = true) : -(2 ^ 62) ≤ i ∧ i < 2 ^ 62 := by
  unfold inR at h
  rw [Bool.and_eq_true] at h
  exact ⟨of_decide_eq_true h.1, of_decide_eq_true h.2⟩
theorem runEs_len : ∀ {es : Es} {l : List Expr} {ρ ρ' : Env} {rs : List Rv}, runEs G es ρ = .ok (rs, ρ') → okEs gi N sc es l = true → rs.length = l.length
  | .nil, l, ρ, ρ', rs, h, hk => by
    simp only [runEs] at h
    cases h
    have : l = [] := by simpa [okEs] using hk
    subst this; rfl
  | .cons e es, [], _, _, _, _, hk => by simp [okEs] at hk
  | .cons e es, x :: l, ρ, ρ', rs, h, hk => by
    simp only [runEs] at h
    obtain ⟨p1, _, h⟩ := Res.bind_ok h
    obtain ⟨p2, k2, h⟩ := Res.bind_ok h
    cases h
    simp only [okEs, Bool.and_eq_true] at hk
    have := runEs_len (ρ' := p2.2) (rs := p2.1) k2 hk.2
    simp [this]
theorem blt_range : (("range" : String) : Str) ∈ bltNames := by decide +kernel
theorem snd_rng (o : XOk gi G tabs N sc ts k X) {es : Es} {x : Expr} (h : okI gi N sc (.rng es) x tg = true) (ih : ∀ l, okEs gi N sc es l = true → SA tabs X l (runEs G es)) : SI tabs X tg x (runI G (.rng es)) := fun B hB => by
  simp only [okI] at h
  cases e : asCall x with
  | none => rw [e] at h; cases h
  | some z =>
    obtain ⟨f, l⟩ := z
    rw [e] at h
    simp only [Bool.and_eq_true, decide_eq_true_eq] at h
    obtain ⟨p, pos, rfl⟩ := asCall_some e
    obtain ⟨⟨⟨rfl, h1⟩, h2⟩, h3⟩ := h
    have hm := o.blt _ blt_range
    have st : ∀ {y : Expr} {l : List Expr} {es : Es}, okEs gi N sc es (y :: l) = true → isStar y = false ∧ ∃ es', okEs gi N sc es' l = true := fun {y l es} h3 => by
      cases es with
      | nil => simp [okEs] at h3
      | cons e' es' =>
        simp only [okEs, Bool.and_eq_true, Bool.not_eq_true'] at h3
        exact ⟨h3.1.1, es', h3.2⟩
    refine ⟨fun pins s σ H Rr I ⟨ρ, tt, vs, ds, ρ', mv, hR, hl, hF, hQ⟩ => ?_⟩
    simp only [runI] at hF
    obtain ⟨⟨rs, ρ1⟩, g1, hF⟩ := Res.bind_ok hF
    obtain ⟨ds', g2, hF⟩ := Res.bind_ok hF
    have g2 : dRange (rs.map Rv.d) = some ds' := Res.of_ok g2
    cases hF
    have read : ∀ (Q : List V → Hp → Prop), (∀ us H', RpA X.K (Mt B.Z (ρ1 ++ tt) (σ ++ vs)) H' us (rs.map Rv.d) → R X.K B (ρ1 ++ tt) (σ ++ vs) H' → Q us H') → tAs X.K B (runEs G es) σ H Q := fun Q hq => ⟨ρ, tt, vs, rs, ρ1, hR, hl, g1, fun us H1 hu R1 => by
      have e1 : (ρ1 ++ tt).length = (σ ++ vs).length := by have a := hR.len; have b := R1.len; simp at a b ⊢; omega
      obtain ⟨q0, q1⟩ := R1.takeAll e1
      exact hq us H1 q1 q0⟩
    have fin : ∀ {H' : Hp} {J : It}, R X.K B (ρ1 ++ tt) (σ ++ vs) H' → (∀ B', Wk X.K B' J ds .no none) → Rr J H' := fun {H' J} q0 w => hQ J H' .no none (fun d e => by cases e) (q0.push_no none) w
    have int1 : ∀ {us : List V} {H' : Hp} {i : Int}, RpA X.K (Mt B.Z (ρ1 ++ tt) (σ ++ vs)) H' us [.int i] → us = [.int i] := fun {us H' i} h => by
      cases h with | cons h t => cases t; rw [h.intV]
    have int2 : ∀ {us : List V} {H' : Hp} {i j : Int}, RpA X.K (Mt B.Z (ρ1 ++ tt) (σ ++ vs)) H' us [.int i, .int j] → us = [.int i, .int j] := fun {us H' i j} h => by
      cases h with | cons h t => cases t with | cons h' t => cases t; rw [h.intV, h'.intV]
    have int3 : ∀ {us : List V} {H' : Hp} {i j c : Int}, RpA X.K (Mt B.Z (ρ1 ++ tt) (σ ++ vs)) H' us [.int i, .int j, .int c] → us = [.int i, .int j, .int c] := fun {us H' i j c} h => by
      cases h with | cons h t => cases t with | cons h' t => cases t with | cons h'' t => cases t; rw [h.intV, h'.intV, h''.intV]
    have hrs := runEs_len g1 h3
    match l, h3, h2, hrs with
    | [], h3, _, hrs =>
      have : rs = [] := by simpa using hrs
      subst this
      cases g2
    | [a], h3, _, hrs =>
      obtain ⟨s1, es1, t1⟩ := st h3
      refine (pi_range1 (o.gl h1) hm (ih _ h3 B hB) (by rw [star_of s1]; rfl)).run pins s σ H Rr I (read _ fun us H' q1 q0 => ?_)
      match q : rs.map Rv.d, g2, q1 with
      | [.int j], g2, q1 =>
        simp only [dRange] at g2
        by_cases hj : inR j = true
        · rw [if_pos hj] at g2
          cases g2
          exact ⟨j, int1 q1, (inR_iff hj).1, (inR_iff hj).2, fin q0 (fun _ => wk_rng)⟩
        · rw [if_neg hj] at g2; cases g2
      | [.int i, .int j], g2, q1 => have := congrArg List.length q; simp [hrs] at this
      | [.int i, .int j, .int c], g2, q1 => have := congrArg List.length q; simp [hrs] at this
    | [a, b], h3, _, hrs =>
      obtain ⟨s1, es1, t1⟩ := st h3
      obtain ⟨s2, es2, t2⟩ := st t1
      refine (pi_range2 (o.gl h1) hm (ih _ h3 B hB) (by rw [star_of s1, star_of s2]; rfl) (by rw [star_of s2]; rfl)).run pins s σ H Rr I (read _ fun us H' q1 q0 => ?_)
      match q : rs.map Rv.d, g2, q1 with
      | [.int j], g2, q1 => have := congrArg List.length q; simp [hrs] at this
      | [.int i, .int j], g2, q1 =>
        simp only [dRange] at g2
        by_cases hj : (inR i && inR j) = true
        · rw [if_pos hj] at g2
          cases g2
          rw [Bool.and_eq_true] at hj
          exact ⟨i, j, int2 q1, ⟨(inR_iff hj.1).1, (inR_iff hj.1).2, (inR_iff hj.2).1, (inR_iff hj.2).2⟩, fin q0 (fun _ => wk_rng)⟩
        · rw [if_neg hj] at g2; cases g2
      | [.int i, .int j, .int c], g2, q1 => have := congrArg List.length q; simp [hrs] at this
    | [a, b, c], h3, _, hrs =>
      obtain ⟨s1, es1, t1⟩ := st h3
      obtain ⟨s2, es2, t2⟩ := st t1
      obtain ⟨s3, es3, t3⟩ := st t2
      refine (pi_range3 (o.gl h1) hm (ih _ h3 B hB) (by rw [star_of s1, star_of s2, star_of s3]) (by rw [star_of s2, star_of s3]; rfl)).run pins s σ H Rr I (read _ fun us H' q1 q0 => ?_)
      match q : rs.map Rv.d, g2, q1 with
      | [.int j], g2, q1 => have := congrArg List.length q; simp [hrs] at this
      | [.int i, .int j], g2, q1 => have := congrArg List.length q; simp [hrs] at this
      | [.int i, .int j, .int c], g2, q1 =>
        simp only [dRange] at g2
        by_cases hj : (inR i && inR j && decide (c = -1)) = true
        · rw [if_pos hj] at g2
          cases g2
          simp only [Bool.and_eq_true, decide_eq_true_eq] at hj
          obtain ⟨⟨ha, hb⟩, rfl⟩ := hj
          exact ⟨i, j, -1, (i - j).toNat, int3 q1, RgC.neg (inR_iff ha).1 (inR_iff ha).2 (inR_iff hb).1 (inR_iff hb).2, fin q0 (fun _ => wk_rngC)⟩
        · rw [if_neg hj] at g2; cases g2
theorem blt_rev : (("reversed" : String) : Str) ∈ bltNames := by decide +kernel
theorem snd_rev (o : XOk gi G tabs N sc ts k X) {e : E} {x : Expr} (h : okI gi N sc (.rev e) x tg = true) (ih : ∀ y, okE gi N sc e y = true → SE tabs X y (runE G e)) : SI tabs X tg x (runI G (.rev e)) := fun B hB => by
  simp only [okI] at h
  split at h
  · rename_i f y ee
    simp only [Bool.and_eq_true, decide_eq_true_eq, Bool.not_eq_true'] at h
    obtain ⟨p, pos, rfl⟩ := asCall_some ee
    obtain ⟨⟨⟨rfl, h1⟩, h2⟩, h3⟩ := h
    refine ⟨fun pins s σ H Rr I ⟨ρ, tt, vs, ds, ρ', mv, hR, hl, hF, hQ⟩ => ?_⟩
    simp only [runI] at hF
    obtain ⟨⟨r, ρ1⟩, g1, hF⟩ := Res.bind_ok hF
    cases q : r.d with
    | lst l =>
      rw [show (r, ρ1).1.d = r.d from rfl, q] at hF
      cases hF
      have hs : r.sl = .val (.lst l) ∨ r.sl = .own (.lst l) := by
        cases r with
        | val d => left; show Sl.val d = _; rw [show d = D.lst l from q]
        | own d => right; show Sl.own d = _; rw [show d = D.lst l from q]
      refine (pi_reversed (o.gl h1) (o.blt _ blt_rev) (pa_cons (ih y h3 B hB) pa_nil (star_of h2)) (by rw [star_of h2]; rfl)).run pins s σ H Rr I ⟨ρ, tt, vs, r, ρ1, hR, hl, g1, fun v H' R1 => ?_⟩
      obtain ⟨_, q1⟩ := R1.take1
      rw [q] at q1
      obtain ⟨a, xs, rfl, k1, _, k3⟩ := q1.lstV
      exact ⟨a, xs, rfl, .inl (.inl k1), hQ _ H' r.sl (some (.ref a)) (fun d => r.noref d) R1 (fun _ => wk_rev k3.len hs)⟩
    | _ => rw [show (r, ρ1).1.d = r.d from rfl, q] at hF; cases hF
  · cases h
end
end Gw

set_option Elab.async false
set_option linter.all false
set_option maxRecDepth 100000
set_option maxHeartbeats 2000000
/-! The value layer, part 12: targets, list comprehensions. -/
namespace Gw
open PySem L2

/-! ### targets -/
def gD (K : PySem.W.Frag) (B : Bs) (t : T) : TG := fun v σ H Q => ∃ (ρ : Env) (ts : List Sl) (vs : List (Option V)) (d : D) (ρ' : Env), R K B (ρ ++ ts ++ [.val d]) (σ ++ vs ++ [some v]) H ∧ ρ.length = σ.length ∧ setT t d ρ = some ρ' ∧
  ∀ σ' H', σ'.length = σ.length → (∀ j, j ∉ t.slots → σ'[j]? = σ[j]?) → R K B (ρ' ++ ts) (σ' ++ vs) H' → Q σ' H'
def gsD (K : PySem.W.Frag) (B : Bs) (tl : List T) : TGs := fun us σ H Q => ∃ (ρ : Env) (ts : List Sl) (vs : List (Option V)) (ds : List D) (ρ' : Env), R K B (ρ ++ ts) (σ ++ vs) H ∧ RpA K (Mt B.Z (ρ ++ ts) (σ ++ vs)) H us ds ∧ ρ.length = σ.length ∧ setTs tl ds ρ = some ρ' ∧
  ∀ σ' H', σ'.length = σ.length → (∀ j, j ∉ T.slots.slotsL tl → σ'[j]? = σ[j]?) → R K B (ρ' ++ ts) (σ' ++ vs) H' → Q σ' H'
theorem R.put_ok {K : PySem.W.Frag} {B : Bs} {ρ ρ' : Env} {ts : List Sl} {σ : List (Option V)} {H : Hp} {i : Nat} {s : Sl} (r : R K B (ρ ++ ts) σ H) (h : ρ.put i s = some ρ') : (∀ e, ρ.at i ≠ .ref e) ∧ ρ' = ρ.set i s := by
  cases i with
  | zero =>
    simp only [Env.put] at h
    split at h
    · cases h
    · rename_i hn
      exact ⟨fun e q => hn e q, (Option.some.inj h).symm⟩
  | succ i =>
    simp only [Env.put] at h
    refine ⟨fun e q => ?_, (Option.some.inj h).symm⟩
    obtain ⟨a, z, _⟩ := r.ref (i + 1) e (getL (at_some q (fun z => by cases z)))
    cases z
section
variable {K : PySem.W.Frag} {B : Bs} {ρ : Env} {ts : List Sl} {σ : List (Option V)} {vs : List (Option V)} {H : Hp}
theorem RpA.inv {K : PySem.W.Frag} {M : Addr → Prop} {H : Hp} {us : List V} {d : D} {ds : List D} (h : RpA K M H us (d :: ds)) : ∃ v vs, us = v :: vs ∧ Rp K M H v d ∧ RpA K M H vs ds := by
  cases h with | cons h t => exact ⟨_, _, rfl, h, t⟩
theorem R.pushAll {K : PySem.W.Frag} {B : Bs} {H : Hp} : ∀ {us : List V} {ds : List D} {ss : List Sl} {vs : List (Option V)}, R K B ss vs H → RpA K (Mt B.Z ss vs) H us ds → R K B (ss ++ ds.map Sl.val) (vs ++ us.map some) H
  | _, _, ss, vs, r, .nil => by simpa using r
  | _, _, ss, vs, r, .cons (v := v) (vs := us) (d := d) (ds := ds) h t => by
    have r1 := r.push_val h
    have t1 : RpA K (Mt B.Z (ss ++ [.val d]) (vs ++ [some v])) H us ds := t.mono (fun a o h _ _ => h) fun a m => .inl ((mt_push_val r.len).mp m)
    have r2 := R.pushAll r1 t1
    simpa using r2
theorem R.takeVals {K : PySem.W.Frag} {B : Bs} {H : Hp} {us : List V} {ds : List D} {ss : List Sl} {vs : List (Option V)} (r : R K B (ss ++ ds.map Sl.val) (vs ++ us.map some) H) (hl : ss.length = vs.length) : R K B ss vs H ∧ RpA K (Mt B.Z ss vs) H us ds := by
  have e1 : (ds.map Rv.val).map Rv.sl = ds.map Sl.val := by rw [List.map_map]; rfl
  have e2 : (ds.map Rv.val).map Rv.d = ds := by rw [List.map_map]; exact List.map_id' ds
  rw [← e1] at r
  have q := r.takeAll hl
  rw [e2] at q
  exact q
theorem at_get {i : Nat} (hi : i < ρ.length) : ρ[i]? = some (ρ.at i) := by
  unfold Env.at
  rw [List.getElem?_eq_getElem hi]; rfl
theorem R.storeT {i : Nat} {d : D} {v : V} (r : R K B (ρ ++ ts ++ [.val d]) (σ ++ vs ++ [some v]) H) (hl : ρ.length = σ.length) (hi : i < ρ.length) (hn : ∀ e, ρ.at i ≠ .ref e) : R K B (ρ.set i (.val d) ++ ts) (σ.set i (some v) ++ vs) H := by
  have q := r.store (i := i) (t := ρ.at i) (fun d e => by cases e) (getL (at_get hi)) hn
  rw [set_left hi, set_left (by omega)] at q
  exact q
end
section
variable {gi : GI} {G : Glo} {tabs : List Addr} {N : List Str} {sc ts : Scope} {k : Nat} {X : Cx}
theorem okTs_each {env : PySem.Env} : ∀ {tl : List T} {es : List Expr}, okTs N ts tl es = true → (assignEach es env).length = es.length ∧ (assignEach es env).findIdx? (·.1) = none ∧ tl.length = es.length
  | [], [], _ => ⟨rfl, rfl, rfl⟩
  | [], _ :: _, h => by simp [okTs] at h
  | _ :: _, [], h => by simp [okTs] at h
  | t :: tl, x :: xs, h => by
    simp only [okTs, Bool.and_eq_true] at h
    have hx : assignEach (x :: xs) env = (false, assign x env) :: assignEach xs env := by
      cases t with
      | nm i =>
        have h1 := h.1
        simp only [okT] at h1
        cases q : asName x with
        | none => rw [q] at h1; cases h1
        | some y => obtain ⟨p, rfl⟩ := asName_some q; rfl
      | tu tt =>
        have h1 := h.1
        simp only [okT] at h1
        cases q : asTup x with
        | none => rw [q] at h1; cases h1
        | some y => obtain ⟨k, p, rfl⟩ := asTup_some q; rfl
    obtain ⟨h1, h2, h3⟩ := okTs_each (env := env) h.2
    rw [hx]
    refine ⟨by simp [h1], ?_, by simp [h3]⟩
    rw [List.findIdx?_cons]
    simp [h2]
theorem setTs_len : ∀ {tl : List T} {ds : List D} {ρ ρ' : Env}, setTs tl ds ρ = some ρ' → tl.length = ds.length
  | [], [], _, _, _ => rfl
  | [], _ :: _, _, _, h => by simp [setTs] at h
  | _ :: _, [], _, _, h => by simp [setTs] at h
  | t :: tl, d :: ds, ρ, ρ', h => by
    simp only [setTs] at h
    split at h
    · rw [List.length_cons, List.length_cons, setTs_len h]
    · cases h
mutual
theorem pg_ok (o : XOk gi G tabs N sc ts k X) (B : Bs) : ∀ (t : T) (x : Expr), okT N ts t x = true → PG X x (gD X.K B t)
  | .nm i, x, h => by
    simp only [okT] at h
    cases e : asName x with
    | none => rw [e] at h; cases h
    | some y =>
      rw [e] at h
      simp only [Bool.and_eq_true, decide_eq_true_eq] at h
      obtain ⟨p, rfl⟩ := asName_some e
      obtain ⟨h1, h2⟩ := o.fnm y h.2
      refine ⟨fun pins s σ H v u Q I r ⟨ρ, tt, vs, d, ρ', hR, hl, hF, hQ⟩ => ?_⟩
      simp only [setT] at hF
      obtain ⟨hn, rfl⟩ := R.put_ok (ts := tt ++ [.val d]) (by simpa using hR) hF
      have hi : i < ρ.length := by
        rw [hl, I.len, o.hN]; exact lt_of_get h.1
      refine (pg_name (i := i) (by rw [o.hN]; exact o.nd) (by rw [o.hN]; exact h.1) h1 h2).run pins s σ H v u Q I r ?_
      refine hQ _ H (by simp) (fun j hj => ?_) (hR.storeT hl hi hn)
      have : i ≠ j := fun z => hj (by simp [T.slots, z])
      rw [List.getElem?_set_ne this]
  | .tu tl, x, h => by
    simp only [okT] at h
    cases e : asTup x with
    | none => rw [e] at h; cases h
    | some es =>
      rw [e] at h
      obtain ⟨kk, p, rfl⟩ := asTup_some e
      obtain ⟨e1, e2, e3⟩ := okTs_each (env := X.env) h
      refine ⟨fun pins s σ H v u Q I r ⟨ρ, tt, vs, d, ρ', hR, hl, hF, hQ⟩ => ?_⟩
      cases d with
      | tup ds =>
        simp only [setT] at hF
        obtain ⟨q0, q1⟩ := R.take1 (r := .val (.tup ds)) hR
        obtain ⟨a, xs, rfl, k1, k2⟩ := q1.tupV
        refine (pg_tup o.calm (pgs_ok o B tl es h) e1 e2).run pins s σ H _ u Q I r ⟨a, xs, rfl, k1, ?_, ρ, tt, vs, ds, ρ', q0, k2, hl, hF, fun σ' H' l1 l2 R' => hQ σ' H' l1 (fun j hj => l2 j (by simpa [T.slots] using hj)) R'⟩
        rw [k2.len, ← setTs_len hF, e3]
      | _ => simp [setT] at hF
theorem pgs_ok (o : XOk gi G tabs N sc ts k X) (B : Bs) : ∀ (tl : List T) (es : List Expr), okTs N ts tl es = true → PGs X es (gsD X.K B tl)
  | [], [], _ => ⟨fun pins s σ H vs us Q I r ⟨ρ, tt, vs0, ds, ρ', hR, hv, hl, hF, hQ⟩ => by
      cases ds with
      | cons _ _ => simp [setTs] at hF
      | nil =>
        simp only [setTs] at hF
        cases hF
        cases hv
        exact pgs_nil.run pins s σ H [] us Q I r ⟨rfl, hQ σ H rfl (fun _ _ => rfl) hR⟩⟩
  | [], _ :: _, h => by simp [okTs] at h
  | _ :: _, [], h => by simp [okTs] at h
  | t :: tl, x :: xs, h => by
    have h' := h
    simp only [okTs, Bool.and_eq_true] at h
    have hx : (assignEach (x :: xs) X.env).map (·.2) = assign x X.env :: (assignEach xs X.env).map (·.2) := by
      cases t with
      | nm i =>
        have h1 := h.1
        simp only [okT] at h1
        cases q : asName x with
        | none => rw [q] at h1; cases h1
        | some y => obtain ⟨p, rfl⟩ := asName_some q; rfl
      | tu tt =>
        have h1 := h.1
        simp only [okT] at h1
        cases q : asTup x with
        | none => rw [q] at h1; cases h1
        | some y => obtain ⟨k, p, rfl⟩ := asTup_some q; rfl
    refine ⟨fun pins s σ H vs us Q I r ⟨ρ, tt, vs0, ds, ρ', hR, hv, hl, hF, hQ⟩ => ?_⟩
    cases ds with
    | nil => simp [setTs] at hF
    | cons d ds =>
      simp only [setTs] at hF
      split at hF
      · rename_i ρ1 hρ1
        obtain ⟨v1, vs1, rfl, hv1, hv2⟩ := hv.inv
        · have hp : R X.K B (ρ ++ (tt ++ ds.map Sl.val)) (σ ++ (vs0 ++ vs1.map some)) H := by
            have := hR.pushAll hv2
            simpa using this
          have hv1' : Rp X.K (Mt B.Z (ρ ++ (tt ++ ds.map Sl.val)) (σ ++ (vs0 ++ vs1.map some))) H v1 d := rp_congr (fun a m => m.elim .inl fun ⟨j, s, k1, k2, k3⟩ => by
            rw [← List.append_assoc] at k1 k3
            rcases getA k1 with ⟨hj, k1⟩ | ⟨hj, k1⟩
            · rw [List.getElem?_append_left (by rw [← hR.len]; exact hj)] at k3
              exact .inr ⟨j, s, k1, k2, k3⟩
            · obtain ⟨d', _, rfl⟩ := get_map k1
              exact k2.elim) hv1
          refine (pgs_cons (pg_ok o B t x h.1) (pgs_ok o B tl xs h.2) hx).run pins s σ H _ us Q I r ⟨v1, vs1, rfl, ρ, tt ++ ds.map Sl.val, vs0 ++ vs1.map some, d, ρ1, hp.push_val hv1', hl, hρ1, fun σ1 H1 l1 l2 R1 => ?_⟩
          have R1' : R X.K B ((ρ1 ++ tt) ++ ds.map Sl.val) ((σ1 ++ vs0) ++ vs1.map some) H1 := by simpa using R1
          have hz : (ρ1 ++ tt).length = (σ1 ++ vs0).length := by
            have a := R1'.len
            have b := hv2.len
            simp at a ⊢; omega
          obtain ⟨q0, q1⟩ := R1'.takeVals hz
          have l3 : ρ1.length = σ1.length := by
            have a := hR.len
            simp at a hz; omega
          refine ⟨ρ1, tt, vs0, ds, ρ', q0, q1, l3, hF, fun σ2 H2 l4 l5 R2 => hQ σ2 H2 (by omega) (fun j hj => ?_) R2⟩
          simp only [T.slots.slotsL, List.mem_append, not_or] at hj
          rw [l5 j hj.2, l2 j hj.1]
      · cases hF
end
end
end Gw

set_option Elab.async false
set_option linter.all false
set_option maxRecDepth 100000
set_option maxHeartbeats 2000000
/-! The value layer, part 13: list comprehensions. -/
namespace Gw
open PySem L2

/-! ### wiping -/
theorem wipe_len (ρ : Env) : ∀ vs : List Nat, (wipe ρ vs).length = ρ.length
  | [] => rfl
  | v :: vs => by unfold wipe; rw [List.length_set, wipe_len ρ vs]
theorem wipe_in {ρ : Env} {j : Nat} : ∀ {vs : List Nat}, j ∈ vs → j < ρ.length → (wipe ρ vs)[j]? = some .no
  | [], h, _ => by cases h
  | v :: vs, h, hj => by
    unfold wipe
    by_cases e : v = j
    · subst e; rw [List.getElem?_set_self (by rw [wipe_len]; exact hj)]
    · rw [List.getElem?_set_ne e]
      rcases List.mem_cons.mp h with h | h
      · exact (e h.symm).elim
      · exact wipe_in h hj
theorem wipe_off {ρ : Env} {j : Nat} : ∀ {vs : List Nat}, j ∉ vs → (wipe ρ vs)[j]? = ρ[j]?
  | [], _ => rfl
  | v :: vs, h => by
    unfold wipe
    rw [List.getElem?_set_ne (fun e => h (by rw [e]; exact List.mem_cons_self))]
    exact wipe_off fun m => h (List.mem_cons_of_mem _ m)
theorem lwipe_len (σ : L2.St) (vs : List Nat) : (L2.wipe σ vs).length = σ.length := L2.wipe_length σ vs
theorem lwipe_in {σ : L2.St} {j : Nat} : ∀ {vs : List Nat}, j ∈ vs → j < σ.length → (L2.wipe σ vs)[j]? = some none
  | [], h, _ => by cases h
  | v :: vs, h, hj => by
    unfold L2.wipe
    by_cases e : v = j
    · subst e; rw [List.getElem?_set_self (by rw [L2.wipe_length]; exact hj)]
    · rw [List.getElem?_set_ne e]
      rcases List.mem_cons.mp h with h | h
      · exact (e h.symm).elim
      · exact lwipe_in h hj
theorem lwipe_eq {σ σ' : L2.St} {vs : List Nat} (hl : σ'.length = σ.length) (h : ∀ j, j ∉ vs → σ'[j]? = σ[j]?) : L2.wipe σ' vs = L2.wipe σ vs := by
  apply List.ext_getElem?
  intro j
  by_cases hj : j ∈ vs
  · by_cases hz : j < σ.length
    · rw [lwipe_in hj hz, lwipe_in hj (by omega)]
    · rw [List.getElem?_eq_none (by rw [L2.wipe_length]; omega), List.getElem?_eq_none (by rw [L2.wipe_length]; omega)]
  · rw [L2.wipe_out hj, L2.wipe_out hj, h j hj]
section
variable {K : PySem.W.Frag} {B : Bs} {ρ : Env} {σ : List (Option V)} {ss ts : List Sl} {vs ws : List (Option V)} {H : Hp}
theorem R.swap {s t : Sl} {x y : Option V} (r : R K B (ss ++ [s] ++ [t]) (vs ++ [x] ++ [y]) H) (hl : ss.length = vs.length) (hs : ∀ d, s ≠ .ref d) (ht : ∀ d, t ≠ .ref d) : R K B (ss ++ [t] ++ [s]) (vs ++ [y] ++ [x]) H := by
  have place : ∀ {j : Nat} {u a b : Sl}, (ss ++ [a] ++ [b])[j]? = some u → (j < ss.length ∧ ss[j]? = some u) ∨ (j = ss.length ∧ u = a) ∨ (j = ss.length + 1 ∧ u = b) := fun {j u a b} h => by
    rcases get1 h with ⟨hj, h⟩ | ⟨hj, e⟩
    · rcases get1 h with h | ⟨hj, e⟩
      · exact .inl h
      · exact .inr (.inl ⟨hj, e⟩)
    · simp at hj; exact .inr (.inr ⟨hj, e⟩)
  have v0 : ∀ {j : Nat} {a b : Option V}, j < ss.length → (vs ++ [a] ++ [b])[j]? = vs[j]? := fun {j a b} hj => by
    rw [List.append_assoc, List.getElem?_append_left (by omega)]
  have v1 : ∀ {a b : Option V}, (vs ++ [a] ++ [b])[ss.length]? = some a := fun {a b} => by
    rw [List.getElem?_append_left (by simp; omega), hl]; exact getEnd _ _
  have v2 : ∀ {a b : Option V}, (vs ++ [a] ++ [b])[ss.length + 1]? = some b := fun {a b} => by
    rw [show ss.length + 1 = (vs ++ [a]).length by simp [hl]]; exact getEnd _ _
  have s0 : ∀ {j : Nat} {a b : Sl}, j < ss.length → (ss ++ [a] ++ [b])[j]? = ss[j]? := fun {j a b} hj => by
    rw [List.append_assoc, List.getElem?_append_left hj]
  have s1 : ∀ {a b : Sl}, (ss ++ [a] ++ [b])[ss.length]? = some a := fun {a b} => by
    rw [List.getElem?_append_left (by simp)]; exact getEnd _ _
  have s2 : ∀ {a b : Sl}, (ss ++ [a] ++ [b])[ss.length + 1]? = some b := fun {a b} => by
    rw [show ss.length + 1 = (ss ++ [a]).length by simp]; exact getEnd _ _
  let f : Nat → Nat := fun j => if j < ss.length then j else if j = ss.length then ss.length + 1 else ss.length
  refine r.sel f (by simp [hl]) (fun j u h => .inr ?_) (fun i j u w h1 h2 _ _ e => ?_) (fun j d h => ?_) fun j d h => ?_
  · rcases place h with ⟨hj, h⟩ | ⟨rfl, rfl⟩ | ⟨rfl, rfl⟩
    · simp only [f, hj, if_true]
      exact ⟨(s0 hj).trans h, by rw [v0 hj, v0 hj]⟩
    · simp only [f, Nat.lt_irrefl, if_false, if_true]
      exact ⟨s2, by rw [v1, v2]⟩
    · have n1 : ¬ ss.length + 1 < ss.length := by omega
      have n2 : ¬ ss.length + 1 = ss.length := by omega
      simp only [f, n1, n2, if_false]
      exact ⟨s1, by rw [v1, v2]⟩
  · have hi : i ≤ ss.length + 1 := by have := lt_of_get h1; simp at this; omega
    have hj : j ≤ ss.length + 1 := by have := lt_of_get h2; simp at this; omega
    simp only [f] at e
    split at e <;> split at e <;> (try split at e) <;> (try split at e) <;> omega
  · rcases place h with ⟨hj, h⟩ | ⟨_, e⟩ | ⟨_, e⟩
    · simp only [f, hj, if_true]
    · exact (ht d e.symm).elim
    · exact (hs d e.symm).elim
  · rcases place h with ⟨hj, h⟩ | ⟨_, e⟩ | ⟨_, e⟩
    · rw [s0 hj]; exact h
    · exact (hs d e.symm).elim
    · exact (ht d e.symm).elim
/-- the block's names are forgotten on both sides -/
theorem R.wiped {sl : List Nat} {σ' : List (Option V)} (r : R K B (ρ ++ ts) (σ ++ vs) H) (hl : ρ.length = σ.length) (hl' : σ'.length = σ.length) (h : ∀ j, j ∉ sl → σ'[j]? = σ[j]?) (hra : ∀ j ∈ sl, B.ra j = none) : R K B (wipe ρ sl ++ ts) (σ' ++ vs) H := by
  have hw := wipe_len ρ sl
  have ht : ts.length = vs.length := by have := r.len; simp at this; omega
  refine r.sel (fun j => j) (by simp [hw, ht]; omega) (fun j s h1 => ?_) (fun i j _ _ _ _ _ _ e => e) (fun _ _ _ => rfl) fun j d h1 => ?_
  · rcases getA h1 with ⟨hj, h1⟩ | ⟨hj, h1⟩
    · rw [hw] at hj
      by_cases hm : j ∈ sl
      · rw [wipe_in hm hj] at h1
        cases h1; exact .inl rfl
      · rw [wipe_off hm] at h1
        refine .inr ⟨getL h1, ?_⟩
        rw [List.getElem?_append_left (by omega), List.getElem?_append_left (by omega)]
        exact h j hm
    · rw [hw] at hj h1
      refine .inr ⟨?_, ?_⟩
      · rw [List.getElem?_append_right hj]; exact h1
      · rw [List.getElem?_append_right (by omega), List.getElem?_append_right (by omega), hl']
  · obtain ⟨a, h0, _⟩ := r.ref j d h1
    have hm : j ∉ sl := fun m => by rw [hra j m] at h0; cases h0
    rcases getA h1 with ⟨hj, h1⟩ | ⟨hj, h1⟩
    · rw [List.getElem?_append_left (by rw [hw]; exact hj), wipe_off hm]; exact h1
    · rw [List.getElem?_append_right (by rw [hw]; exact hj), hw]; exact h1
theorem wipable_ra {sl : List Nat} (r : R K B (ρ ++ ts) (σ ++ vs) H) (h : wipable ρ sl = true) : ∀ j ∈ sl, B.ra j = none ∧ j < ρ.length := fun j hj => by
  unfold wipable at h
  have q := List.all_eq_true.mp h j hj
  rw [Bool.and_eq_true, decide_eq_true_eq] at q
  refine ⟨?_, q.1⟩
  cases e : B.ra j with
  | none => rfl
  | some a =>
    obtain ⟨d, hd⟩ := r.pin j a e
    rw [List.getElem?_append_left q.1] at hd
    have : ρ.at j = .ref d := by unfold Env.at; rw [hd]; rfl
    rw [this] at q
    cases q.2
end

/-! ### a block's context -/
section
variable {gi : GI} {G : Glo} {tabs : List Addr} {N : List Str} {sc ts : Scope} {k : Nat} {X : Cx}
theorem XOk.blk (o : XOk gi G tabs N sc ts k X) (scope : Scope) (s : Shared) (H : Hp) (C : Addr) (cl : List (Str × Addr)) (fp : List Addr) :
    XOk gi G tabs N (relS scope sc) scope k (X.blk s H scope (compEnvC scope cl C X.env) fp) where
  hN := o.hN
  sc := by
    show relS scope X.env.scope = _
    rw [o.sc]
  calm := o.calm
  nd := o.nd
  dbg := o.dbg
  room := o.room
  roomG := o.roomG
  code := o.code
  blt := o.blt
  fn := o.fn
  cst := o.cst
  fnm := fun x h => by
    rcases isLoc_iff h with q | q
    · have e : (relS scope X.env.scope).names.lookup x = some .local := lookup_relS_keep (by decide) q
      exact ⟨.inl e, .inr e⟩
    · have e : (relS scope X.env.scope).names.lookup x = some .cell := lookup_relS_keep (by decide) q
      refine ⟨.inr e, .inl ?_⟩
      show (scope.names.lookup x == some .cell) = true
      rw [q]; rfl

/-! ### conditions -/
def runC (G : Glo) (c : E) (ρ : Env) : Res (Bool × Env) := if c.isNop then .ok (true, ρ) else (runE G c ρ).bind fun p => truR p.1 p.2
def tCnd (K : PySem.W.Frag) (B : Bs) (G : Glo) (c : E) : TT := fun σ H Q => ∃ (ρ : Env) (ts : List Sl) (vs : List (Option V)) (b : Bool) (ρ' : Env),
  R K B (ρ ++ ts) (σ ++ vs) H ∧ ρ.length = σ.length ∧ runC G c ρ = .ok (b, ρ') ∧ ∀ H', R K B (ρ' ++ ts) (σ ++ vs) H' → Q b H'
theorem snd_ifs {c : E} {ifs : List Expr} (h : (match ifs with | [] => c.isNop | [y] => !c.isNop && okE gi N sc c y | _ => false) = true) (ih : ∀ y, okE gi N sc c y = true → ST tabs X y (runE G c)) (B : Bs) (hB : B.tabs = tabs) : PTs X ifs (tCnd X.K B G c) := by
  match ifs, h with
  | [], h =>
    refine ⟨fun pins s σ H Q I ⟨ρ, tt, vs, b, ρ', hR, hl, hF, hQ⟩ => ?_⟩
    unfold runC at hF
    rw [if_pos h] at hF
    cases hF
    exact (pts_nil (X := X)).run pins s σ H Q I (hQ H hR)
  | [y], h =>
    rw [Bool.and_eq_true] at h
    have hn : c.isNop = false := by simpa using h.1
    refine ⟨fun pins s σ H Q I ⟨ρ, tt, vs, b, ρ', hR, hl, hF, hQ⟩ => ?_⟩
    unfold runC at hF
    rw [if_neg (by simp [hn])] at hF
    obtain ⟨⟨r, ρ1⟩, g1, hF⟩ := Res.bind_ok hF
    unfold truR at hF
    obtain ⟨b', g2, hF⟩ := Res.bind_ok hF
    cases hF
    exact (pts_one (ih y h.2 B hB)).run pins s σ H Q I ⟨ρ, tt, vs, r, ρ1, _, hR, hl, g1, Res.of_ok g2, hQ⟩

/-! ### the loop of one clause -/
def runL (G : Glo) (elt : E) (ρ : Env) : Res (List D × Env) := (runE G elt ρ).bind fun q => .ok ([q.1.d], q.2)
theorem runE_lc (elt : E) (t : T) (it : I) (c : E) (ρ : Env) : runE G (.lc elt t it c) ρ = (runI G it ρ).bind fun s => if wipable s.2.1 t.slots then
      (loopC (turnC (setT t) t.slots (runC G c) (runL G elt)) s.1 [] (wipe s.2.1 t.slots)).bind fun z => (back s.2.2 z.2).bind fun ρ' => .ok (.own (.lst z.1), ρ') else .stuck := by
  simp only [runE]; rfl
/-- behind a loop: the moved container goes home -/
theorem R.home {K : PySem.W.Frag} {B : Bs} {mv : Option (Nat × D)} {s : Sl} {v : Option V} {σ vs : List (Option V)} {ρ ρ' : Env} {ts : List Sl} {H : Hp} (hH : Held mv s v σ) (hb : Gw.back mv ρ = .ok ρ') (hl : ρ.length = σ.length) (r : R K B (ρ ++ ts ++ [s]) (σ ++ vs ++ [v]) H) : R K B (ρ' ++ ts) (σ ++ vs) H := by
  cases mv with
  | none =>
    cases hb
    exact r.pop hH
  | some p =>
    obtain ⟨i, c⟩ := p
    obtain ⟨rfl, hv⟩ := hH
    simp only [Gw.back] at hb
    have hi : i < σ.length := lt_of_get hv
    split at hb
    · rename_i hno
      cases hb
      have g : ρ[i]? = some .no := by rw [at_get (by omega), hno]
      have q := r.moveIn (fun d e => by cases e) (getL g)
      rw [set_left (by omega), set_left hi] at q
      have e : σ.set i v = σ := by
        apply List.ext_getElem?
        intro j
        by_cases e : i = j
        · subst e; rw [List.getElem?_set_self hi, hv]
        · rw [List.getElem?_set_ne e]
      rw [e] at q
      exact q
    · cases hb
theorem back_len {mv : Option (Nat × D)} {ρ ρ' : Env} (hb : back mv ρ = .ok ρ') : ρ'.length = ρ.length := by
  cases mv with
  | none => cases hb; rfl
  | some p =>
    simp only [Gw.back] at hb
    split at hb
    · cases hb; simp
    · cases hb
theorem loopC_len {turn : D → Env → Res (List D × Env)} : ∀ {ds acc z : List D} {ρ ρ' : Env}, loopC turn ds acc ρ = .ok (z, ρ') → acc.length ≤ z.length
  | [], acc, z, ρ, ρ', h => by simp only [loopC] at h; cases h; exact Nat.le_refl _
  | d :: ds, acc, z, ρ, ρ', h => by
    simp only [loopC] at h
    obtain ⟨p, _, h⟩ := Res.bind_ok h
    split at h
    · have := loopC_len h
      simp at this; omega
    · cases h
theorem set_top {α : Type} (a b c : List α) (x y : α) : (a ++ (b ++ [x] ++ c)).set (a ++ b).length y = a ++ (b ++ [y] ++ c) := by
  rw [show a ++ (b ++ [x] ++ c) = (a ++ b) ++ ([x] ++ c) by simp, List.set_append_right _ _ (Nat.le_refl _)]
  simp
/-- the loop of one clause; TT: what else is held, by what has been made so far -/
theorem loop_read {B : Bs} {J : It} {ds : List D} {s : Sl} {v : Option V} {σ VV : List (Option V)} {t : T} {c : E} {TT : List D → List Sl} {sl : List Nat} {F : Env → Res (List D × Env)} {accF acc0 : List D} {ρF ρ0 : Env} {H1 : Hp} {bd : L2.St → Hp → (Hp → Prop) → Prop} {Fin : Hp → Prop}
    (hT : ∀ acc, (TT acc).length = VV.length) (wk : ∀ B', Wk X.K B' J ds s v) (hra : ∀ j ∈ sl, B.ra j = none ∧ j < σ.length) (l0 : ρ0.length = σ.length) (R0 : R X.K B (wipe ρ0 sl ++ TT acc0 ++ [s]) (L2.wipe σ sl ++ VV ++ [v]) H1)
    (g2 : loopC (turnC (setT t) sl (runC G c) F) ds acc0 (wipe ρ0 sl) = .ok (accF, ρF)) (hsl : ∀ j ∈ t.slots, j ∈ sl)
    (hbd : ∀ (ρ3 ρ5 : Env) (acc ys : List D) (σ2 : L2.St) (H3 : Hp) (Nx : Hp → Prop), σ2.length = σ.length → ρ3.length = σ2.length → R X.K B (ρ3 ++ TT acc ++ [s]) (σ2 ++ VV ++ [v]) H3 → F ρ3 = .ok (ys, ρ5) → lineOk (acc.length + ys.length) = true → acc.length + ys.length ≤ accF.length →
      (∀ H', R X.K B (ρ5 ++ TT (acc ++ ys) ++ [s]) (σ2 ++ VV ++ [v]) H' → Nx H') → bd σ2 H3 Nx)
    (hfin : ∀ H5, ρF.length = σ.length → R X.K B (ρF ++ TT accF ++ [s]) (σ ++ VV ++ [v]) H5 → Fin H5) :
    ∃ W : Nat → Nat → Hp → Prop, (∃ m, W 0 m H1) ∧ ∀ i m H, W i m H → (J.stop i H ∧ Fin H) ∨ (J.go i H ∧ ∃ Nx : Hp → Prop, (∀ H', Nx H' → ∃ m', m' < m ∧ W (i + 1) m' H') ∧
      ∀ x H', J.yld i H x H' → gD X.K B t x (L2.wipe σ sl) H' fun σ2 H2 => L2.wipe σ2 sl = L2.wipe σ sl ∧ tCnd X.K B G c σ2 H2 fun b H3 => if b = true then bd σ2 H3 Nx else Nx H3) := by
  refine ⟨fun i m H => m = ds.length - i ∧ i ≤ ds.length ∧ ∃ (ρi : Env) (acc : List D), ρi.length = σ.length ∧ (∀ j ∈ sl, ρi[j]? = some .no) ∧
      R X.K B (ρi ++ TT acc ++ [s]) (L2.wipe σ sl ++ VV ++ [v]) H ∧ loopC (turnC (setT t) sl (runC G c) F) (ds.drop i) acc ρi = .ok (accF, ρF), ⟨ds.length, rfl, Nat.zero_le _, wipe ρ0 sl, acc0, by simp [wipe_len, l0], fun j hj => wipe_in hj (by have := (hra j hj).2; omega), R0, g2⟩, ?_⟩
  rintro i m H5 ⟨rfl, hi, ρi, acc, li, hno, R5, gl⟩
  have l5 : (ρi ++ TT acc).length = (L2.wipe σ sl ++ VV).length := by simp [li, L2.wipe_length, hT]
  by_cases hlt2 : i < ds.length
  · right
    obtain ⟨d, hd⟩ : ∃ d, ds[i]? = some d := ⟨ds[i], List.getElem?_eq_getElem hlt2⟩
    have hdr : ds.drop i = d :: ds.drop (i + 1) := by
      rw [List.drop_eq_getElem_cons hlt2]
      rw [List.getElem?_eq_getElem hlt2] at hd
      cases hd; rfl
    rw [hdr] at gl
    simp only [loopC] at gl
    obtain ⟨⟨ys, ρn⟩, g4, gl⟩ := Res.bind_ok gl
    by_cases hz : lineOk (acc.length + ys.length) = true
    · simp only [hz, if_true] at gl
      simp only [turnC] at g4
      obtain ⟨ρ2, g5, g4⟩ := Res.bind_ok g4
      have g5 := Res.of_ok g5
      obtain ⟨⟨b, ρ3⟩, g6, g4⟩ := Res.bind_ok g4
      refine ⟨(wk B).go i _ _ H5 hlt2 l5 R5, fun H' => ∃ (ρi : Env) (acc : List D), ρi.length = σ.length ∧ (∀ j ∈ sl, ρi[j]? = some .no) ∧ R X.K B (ρi ++ TT acc ++ [s]) (L2.wipe σ sl ++ VV ++ [v]) H' ∧ loopC (turnC (setT t) sl (runC G c) F) (ds.drop (i + 1)) acc ρi = .ok (accF, ρF), fun H' ⟨ρi', acc', q1, q2, q3, q4⟩ => ⟨ds.length - (i + 1), by omega, rfl, hlt2, ρi', acc', q1, q2, q3, q4⟩, fun x H' y => ?_⟩
      have R6 := (wk B).yld i _ _ H5 x H' d hd l5 R5 y
      refine ⟨ρi, TT acc ++ [s], VV ++ [v], d, ρ2, by simpa using R6, by simp [li, L2.wipe_length], g5, fun σ2 H2 s1 s2 R7 => ?_⟩
      rw [L2.wipe_length] at s1
      have s3 : ∀ j, j ∉ sl → σ2[j]? = σ[j]? := fun j hj => by rw [s2 j (fun m => hj (hsl j m)), L2.wipe_out hj]
      refine ⟨lwipe_eq s1 s3, ?_⟩
      have l7 : ρ2.length = σ2.length := by have a := R7.len; have b := hT acc; simp at a; omega
      refine ⟨ρ2, TT acc ++ [s], VV ++ [v], b, ρ3, R7, l7, g6, fun H3 R8 => ?_⟩
      have l8 : ρ3.length = σ2.length := by have a := R8.len; have b := hT acc; simp at a; omega
      have fin : ∀ {ρe : Env} {acc' : List D} {He : Hp}, ρe.length = σ2.length → R X.K B (ρe ++ TT acc' ++ [s]) (σ2 ++ VV ++ [v]) He → R X.K B (wipe ρe sl ++ TT acc' ++ [s]) (L2.wipe σ sl ++ VV ++ [v]) He := fun {ρe acc' He} le Re => by
        have q : R X.K B (ρe ++ (TT acc' ++ [s])) (σ2 ++ (VV ++ [v])) He := by simpa using Re
        have q2 := q.wiped (sl := sl) (σ' := L2.wipe σ sl) le (by rw [L2.wipe_length, s1]) (fun j hj => by rw [L2.wipe_out hj, s3 j hj]) fun j hj => (hra j hj).1
        simpa using q2
      have R8' : R X.K B (ρ3 ++ TT acc ++ [s]) (σ2 ++ VV ++ [v]) H3 := by simpa using R8
      cases b with
      | false =>
        simp only [Bool.false_eq_true, if_false] at g4 ⊢
        cases g4
        rw [List.append_nil] at gl
        exact ⟨wipe ρ3 sl, acc, by rw [wipe_len]; omega, fun j hj => wipe_in hj (by have := (hra j hj).2; omega), fin l8 R8', gl⟩
      | true =>
        simp only [if_true] at g4 ⊢
        obtain ⟨⟨ys', ρ5⟩, g7, g4⟩ := Res.bind_ok g4
        cases g4
        refine hbd ρ3 ρ5 acc ys' σ2 H3 _ s1 l8 R8' g7 hz (by have := loopC_len gl; simp at this; omega) fun H' R10 => ?_
        have l9 : ρ5.length = σ2.length := by have a := R10.len; have b := hT (acc ++ ys'); simp at a; omega
        exact ⟨wipe ρ5 sl, acc ++ ys', by rw [wipe_len]; omega, fun j hj => wipe_in hj (by have := (hra j hj).2; omega), fin l9 R10, gl⟩
    · simp only [hz] at gl; cases gl
  · left
    have e : i = ds.length := by omega
    subst e
    rw [List.drop_length] at gl
    simp only [loopC] at gl
    cases gl
    refine ⟨(wk B).stop _ _ H5 l5 R5, ?_⟩
    have R6 : R X.K B (ρF ++ TT accF ++ [s]) (σ ++ VV ++ [v]) H5 := by
      refine R5.unwipe (by simp [L2.wipe_length]) fun j => ?_
      by_cases hj : j ∈ sl
      · right
        exact getL (getL (hno j hj))
      · left
        simp only [List.append_assoc]
        by_cases hz : j < σ.length
        · rw [List.getElem?_append_left hz, List.getElem?_append_left (by rw [L2.wipe_length]; exact hz), L2.wipe_out hj]
        · rw [List.getElem?_append_right (l₁ := σ) (by omega), List.getElem?_append_right (l₁ := L2.wipe σ sl) (by rw [L2.wipe_length]; omega), L2.wipe_length]
    exact hfin H5 li R6
/-- an element behind the list at Da -/
theorem elt_read {B : Bs} {elt : E} {ρ3 ρ5 : Env} {acc ys : List D} {tt uu : List Sl} {σ2 vs ws : List (Option V)} {Da : Addr} {H3 : Hp} {Nx : Hp → Prop} (hlt : tt.length = vs.length) (l8 : ρ3.length = σ2.length)
    (R8 : R X.K B (ρ3 ++ (tt ++ [.own (.lst acc)] ++ uu)) (σ2 ++ (vs ++ [some (.ref Da)] ++ ws)) H3) (g7 : runL G elt ρ3 = .ok (ys, ρ5)) (hz : acc.length + ys.length ≤ sizeLine)
    (hN : ∀ H', R X.K B (ρ5 ++ (tt ++ [.own (.lst (acc ++ ys))] ++ uu)) (σ2 ++ (vs ++ [some (.ref Da)] ++ ws)) H' → Nx H') :
    tE X.K B (runE G elt) σ2 H3 fun y H4 => ∃ xs, H4 Da = some (.lst xs) ∧ xs.length < sizeLine ∧ Nx (upd H4 Da (.lst (xs ++ [y]))) := by
  unfold runL at g7
  obtain ⟨⟨re, ρ4⟩, g8, g7⟩ := Res.bind_ok g7
  cases g7
  refine ⟨ρ3, tt ++ [.own (.lst acc)] ++ uu, vs ++ [some (.ref Da)] ++ ws, re, ρ4, R8, l8, g8, fun y H4 R9 => ?_⟩
  obtain ⟨q0, q1⟩ := R9.take1
  have l9 : ρ4.length = σ2.length := by have a := q0.len; have b := R8.len; simp at a b; omega
  have gi1 : (ρ4 ++ (tt ++ [Sl.own (.lst acc)] ++ uu))[(ρ4 ++ tt).length]? = some (.own (.lst acc)) := by
    rw [show ρ4 ++ (tt ++ [Sl.own (.lst acc)] ++ uu) = (ρ4 ++ tt) ++ [Sl.own (.lst acc)] ++ uu by simp]
    exact getL (getEnd _ _)
  have gv1 : (σ2 ++ (vs ++ [some (V.ref Da)] ++ ws))[(ρ4 ++ tt).length]? = some (some (.ref Da)) := by
    rw [show σ2 ++ (vs ++ [some (V.ref Da)] ++ ws) = (σ2 ++ vs) ++ [some (V.ref Da)] ++ ws by simp, show (ρ4 ++ tt).length = (σ2 ++ vs).length by simp [l9, hlt]]
    exact getL (getEnd _ _)
  obtain ⟨a', k1, k2, _⟩ := q0.own _ _ gi1
  rw [gv1] at k1; cases k1
  obtain ⟨xs, k3, k4⟩ := k2
  have hlen : acc.length < sizeLine := by simp at hz; omega
  refine ⟨xs, k3, by rw [k4.len]; exact hlen, ?_⟩
  have ma : Mt B.Z (ρ4 ++ (tt ++ [Sl.own (.lst acc)] ++ uu)) (σ2 ++ (vs ++ [some (V.ref Da)] ++ ws)) Da := .inr ⟨_, _, gi1, trivial, gv1⟩
  have stay : Stay (Mt B.Z (ρ4 ++ (tt ++ [Sl.own (.lst acc)] ++ uu)) (σ2 ++ (vs ++ [some (V.ref Da)] ++ ws))) H4 (upd H4 Da (.lst (xs ++ [y]))) := fun b o hb n _ => by
    have ne : b ≠ Da := fun e => n (by rw [e]; exact ma)
    rw [upd_ne ne]; exact hb
  have R10 := q0.mutate (s := .own (.lst acc)) (s' := .own (.lst (acc ++ [re.d]))) (d' := .lst (acc ++ [re.d])) (o' := .lst (xs ++ [y])) gi1 (.inl ⟨rfl, rfl⟩) gv1
    ⟨xs ++ [y], upd_same, (k4.mono stay fun a m => .inl m).append (.cons (q1.mono stay fun a m => .inl m) .nil)⟩
  rw [set_top] at R10
  exact hN _ R10
/-- the block's start -/
theorem lc_start {B : Bs} {σ vs : List (Option V)} {ρ1 : Env} {tt : List Sl} {s : Sl} {v : Option V} {H1 : Hp} {sl : List Nat} {Da : Addr} (R1 : R X.K B (ρ1 ++ tt ++ [s]) (σ ++ vs ++ [v]) H1) (l1 : ρ1.length = σ.length) (hs : ∀ d, s ≠ .ref d) (hw : wipable ρ1 sl = true) (hD : H1 Da = none) :
    (∀ j ∈ sl, B.ra j = none ∧ j < σ.length) ∧ R X.K B (wipe ρ1 sl ++ (tt ++ [.own (.lst [])]) ++ [s]) (L2.wipe σ sl ++ (vs ++ [some (.ref Da)]) ++ [v]) (upd H1 Da (.lst [])) := by
  have R1a : R X.K B (ρ1 ++ (tt ++ [s])) (σ ++ (vs ++ [v])) H1 := by simpa using R1
  have hlt : tt.length = vs.length := by have a := R1.len; simp at a; omega
  have hra := wipable_ra R1a hw
  have R2 : R X.K B (wipe ρ1 sl ++ (tt ++ [s])) (L2.wipe σ sl ++ (vs ++ [v])) H1 := R1a.wiped l1 (L2.wipe_length _ _) (fun j hj => L2.wipe_out hj) fun j hj => (hra j hj).1
  have R3 : R X.K B ((wipe ρ1 sl ++ tt) ++ [s] ++ [.own (.lst [])]) ((L2.wipe σ sl ++ vs) ++ [v] ++ [some (.ref Da)]) (upd H1 Da (.lst [])) := by
    have q := R2.push_own (d := .lst []) hD (Grow.new hD) ⟨[], upd_same, .nil⟩
    simpa using q
  have lw : (wipe ρ1 sl ++ tt).length = (L2.wipe σ sl ++ vs).length := by simp [wipe_len, L2.wipe_length, l1, hlt]
  have R4 := R3.swap lw hs (fun d e => by cases e)
  exact ⟨fun j hj => ⟨(hra j hj).1, by have := (hra j hj).2; omega⟩, by simpa using R4⟩
theorem lc_read {elt : E} {t : T} {it : I} {c : E} {B : Bs} {σ : L2.St} {H : Hp} {Q : VK} (h : tE X.K B (runE G (.lc elt t it c)) σ H Q) :
    tLc (iD X.K B (runI G it)) (gD X.K B t) (tCnd X.K B G c) (tE X.K B (runE G elt)) t.slots σ H Q := by
  obtain ⟨ρ, tt, vs, r, ρ', hR, hl, hF, hQ⟩ := h
  rw [runE_lc] at hF
  obtain ⟨⟨ds, ρ1, mv⟩, g1, hF⟩ := Res.bind_ok hF
  by_cases hw : wipable ρ1 t.slots = true
  · simp only [hw, if_true] at hF
    obtain ⟨⟨accF, ρF⟩, g2, hF⟩ := Res.bind_ok hF
    obtain ⟨ρb, g3, hF⟩ := Res.bind_ok hF
    cases hF
    refine ⟨ρ, tt, vs, ds, ρ1, mv, hR, hl, g1, fun J H1 s v hH R1 wk Da hD => ?_⟩
    have hlt : tt.length = vs.length := by have a := hR.len; simp at a; omega
    have l1 : ρ1.length = σ.length := by have a := hR.len; have b := R1.len; simp at a b; omega
    obtain ⟨hra, R4⟩ := lc_start R1 l1 hH.noref hw hD
    refine loop_read (TT := fun acc => tt ++ [.own (.lst acc)]) (VV := vs ++ [some (.ref Da)]) (bd := fun σ2 H3 Nx => tE X.K B (runE G elt) σ2 H3 fun y H4 => ∃ xs, H4 Da = some (.lst xs) ∧ xs.length < sizeLine ∧ Nx (upd H4 Da (.lst (xs ++ [y])))) (by simp [hlt]) wk hra l1 R4 g2 (fun _ h => h) (fun ρ3 ρ5 acc ys σ2 H3 Nx s1 l8 R8 g7 hz _ hN => ?_) fun H5 l5 R5 => ?_
    · refine elt_read (uu := [s]) (ws := [v]) hlt l8 (by simpa using R8) g7 (lineOk_iff hz) fun H' R' => hN H' (by simpa using R')
    · have R8 := R5.home hH g3 l5
      refine hQ _ H5 ?_
      show R X.K B (ρ' ++ tt ++ [Sl.own (.lst accF)]) _ _
      simpa using R8
  · simp only [hw] at hF; cases hF
/-- a loop's elements behind others -/
theorem runE_lc2 (elt : E) (t : T) (it : I) (c : E) (t' : T) (it' : I) (c' : E) (ρ : Env) : runE G (.lc2 elt t it c t' it' c') ρ = (runI G it ρ).bind fun s => if wipable s.2.1 (t.slots ++ t'.slots) then
      (loopC (turnC (setT t) (t.slots ++ t'.slots) (runC G c) (fun ρ => (runI G it' ρ).bind fun s' => if wipable s'.2.1 t'.slots then (loopC (turnC (setT t') t'.slots (runC G c') (runL G elt)) s'.1 [] (wipe s'.2.1 t'.slots)).bind fun z =>
        (Gw.back s'.2.2 z.2).bind fun ρ' => .ok (z.1, ρ') else .stuck)) s.1 [] (wipe s.2.1 (t.slots ++ t'.slots))).bind fun z => (Gw.back s.2.2 z.2).bind fun ρ' => .ok (.own (.lst z.1), ρ') else .stuck := by
  simp only [runE]; rfl
theorem lc2_read {elt : E} {t t' : T} {it it' : I} {c c' : E} {B : Bs} {σ : L2.St} {H : Hp} {Q : VK} (h : tE X.K B (runE G (.lc2 elt t it c t' it' c')) σ H Q) :
    tLc2 (iD X.K B (runI G it)) (gD X.K B t) (tCnd X.K B G c) (iD X.K B (runI G it')) (gD X.K B t') (tCnd X.K B G c') (tE X.K B (runE G elt)) (t.slots ++ t'.slots) t'.slots σ H Q := by
  obtain ⟨ρ, tt, vs, r, ρ', hR, hl, hF, hQ⟩ := h
  rw [runE_lc2] at hF
  obtain ⟨⟨ds, ρ1, mv⟩, g1, hF⟩ := Res.bind_ok hF
  by_cases hw : wipable ρ1 (t.slots ++ t'.slots) = true
  · simp only [hw, if_true] at hF
    obtain ⟨⟨accF, ρF⟩, g2, hF⟩ := Res.bind_ok hF
    obtain ⟨ρb, g3, hF⟩ := Res.bind_ok hF
    cases hF
    refine ⟨ρ, tt, vs, ds, ρ1, mv, hR, hl, g1, fun J H1 s v hH R1 wk Da hD => ?_⟩
    have hlt : tt.length = vs.length := by have a := hR.len; simp at a; omega
    have l1 : ρ1.length = σ.length := by have a := hR.len; have b := R1.len; simp at a b; omega
    obtain ⟨hra, R4⟩ := lc_start R1 l1 hH.noref hw hD
    refine loop_read (TT := fun acc => tt ++ [.own (.lst acc)]) (VV := vs ++ [some (.ref Da)]) (bd := fun σ2 H3 Nx => iD X.K B (runI G it') σ2 H3 fun J1 H4 => ∃ W1 : Nat → Nat → Hp → Prop, (∃ m, W1 0 m H4) ∧ ∀ j k H, W1 j k H →
      (J1.stop j H ∧ Nx H) ∨ (J1.go j H ∧ ∃ Nx1 : Hp → Prop, (∀ H', Nx1 H' → ∃ k', k' < k ∧ W1 (j + 1) k' H') ∧ ∀ x H', J1.yld j H x H' → gD X.K B t' x (L2.wipe σ2 t'.slots) H' fun σ3 H5 => L2.wipe σ3 t'.slots = L2.wipe σ2 t'.slots ∧ tCnd X.K B G c' σ3 H5 fun b H6 =>
        if b = true then tE X.K B (runE G elt) σ3 H6 fun y H7 => ∃ acc, H7 Da = some (.lst acc) ∧ acc.length < sizeLine ∧ Nx1 (upd H7 Da (.lst (acc ++ [y]))) else Nx1 H6)) (by simp [hlt]) wk hra l1 R4 g2 (fun _ h => List.mem_append_left _ h) (fun ρ3 ρ5 acc ys σ2 H3 Nx s1 l8 R8 g7 hz _ hN => ?_) fun H5 l5 R5 => ?_
    · obtain ⟨⟨ds', ρ6, mv'⟩, g8, g7⟩ := Res.bind_ok g7
      by_cases hw' : wipable ρ6 t'.slots = true
      · simp only [hw', if_true] at g7
        obtain ⟨⟨ysF, ρ7⟩, g9, g7⟩ := Res.bind_ok g7
        obtain ⟨ρ8, g10, g7⟩ := Res.bind_ok g7
        cases g7
        refine ⟨ρ3, tt ++ [.own (.lst acc)] ++ [s], vs ++ [some (.ref Da)] ++ [v], ds', ρ6, mv', by simpa using R8, l8, g8, fun J1 H4 s' v' hH' R9 wk' => ?_⟩
        have l9 : ρ6.length = σ2.length := by have a := R9.len; have b := R8.len; simp at a b; omega
        have R9a : R X.K B (ρ6 ++ ((tt ++ [.own (.lst acc)] ++ [s]) ++ [s'])) (σ2 ++ ((vs ++ [some (.ref Da)] ++ [v]) ++ [v'])) H4 := by simpa using R9
        have hra' := wipable_ra R9a hw'
        have R9b := R9a.wiped (sl := t'.slots) (σ' := L2.wipe σ2 t'.slots) l9 (L2.wipe_length _ _) (fun j hj => L2.wipe_out hj) fun j hj => (hra' j hj).1
        refine loop_read (TT := fun acc' => tt ++ [.own (.lst (acc ++ acc'))] ++ [s]) (VV := vs ++ [some (.ref Da)] ++ [v]) (acc0 := []) (bd := fun σ3 H6 Nx1 => tE X.K B (runE G elt) σ3 H6 fun y H7 => ∃ xs, H7 Da = some (.lst xs) ∧ xs.length < sizeLine ∧ Nx1 (upd H7 Da (.lst (xs ++ [y])))) (by simp [hlt]) wk' (fun j hj => ⟨(hra' j hj).1, by have := (hra' j hj).2; omega⟩) l9 (by simpa using R9b) g9 (fun _ h => h) (fun ρa ρb acc' ys' σ3 H6 Nx1 s1' l8' Ra ga hz' hz2 hN' => ?_) fun H5 l5 R5 => ?_
        · have hz3 := lineOk_iff hz
          refine elt_read (acc := acc ++ acc') (uu := [s] ++ [s']) (ws := [v] ++ [v']) hlt l8' (by simpa using Ra) ga (by simp; simp at hz3; omega) fun H' R' => hN' H' ?_
          simpa using R'
        · have R10 := R5.home hH' g10 l5
          exact hN H5 (by simpa using R10)
      · simp only [hw'] at g7; cases g7
    · have R8 := R5.home hH g3 l5
      refine hQ _ H5 ?_
      show R X.K B (ρ' ++ tt ++ [Sl.own (.lst accF)]) _ _
      simpa using R8
  · simp only [hw] at hF; cases hF

/-! ### as expressions -/
theorem own_slots (N : List Str) (is : List Nat) : (ownOf N is).map (·.2) = is := by
  unfold ownOf; rw [List.map_map]; exact List.map_id' is
theorem notsetI {x : Expr} (h : isSetE x = false) (env : PySem.Env) : ∀ v, foldedSetIterable x env v = pure v := fun v => by
  cases x <;> first | rfl | (simp [isSetE] at h)
theorem okI_set {it : I} {x tg : Expr} (h : okI gi N sc it x tg = true) : isSetE x = false := by
  cases it with
  | frz e => simp only [okI, Bool.and_eq_true, Bool.not_eq_true'] at h; exact h.1
  | mov i => simp only [okI] at h; exact (okV_set h).1
  | rng es =>
    simp only [okI] at h
    cases e : asCall x with
    | none => rw [e] at h; cases h
    | some z => obtain ⟨f, l⟩ := z; obtain ⟨p, pos, rfl⟩ := asCall_some e; rfl
  | rev es =>
    simp only [okI] at h
    cases e : asCall x with
    | none => rw [e] at h; cases h
    | some z => obtain ⟨f, l⟩ := z; obtain ⟨p, pos, rfl⟩ := asCall_some e; rfl
  | enm e => simp [okI] at h
  | zip a b => simp [okI] at h
/-- what the induction gives for the parts, in any context -/
structure IH (gi : GI) (G : Glo) (tabs : List Addr) (N : List Str) (e : E) : Prop where
  se : ∀ {sc ts : Scope} {k : Nat} {X : Cx}, XOk gi G tabs N sc ts k X → ∀ y, okE gi N sc e y = true → SE tabs X y (runE G e)
  st : ∀ {sc ts : Scope} {k : Nat} {X : Cx}, XOk gi G tabs N sc ts k X → ∀ y, okE gi N sc e y = true → ST tabs X y (runE G e)
def IHI (gi : GI) (G : Glo) (tabs : List Addr) (N : List Str) (it : I) : Prop := ∀ {sc ts : Scope} {k : Nat} {X : Cx}, XOk gi G tabs N sc ts k X → ∀ tg y, okI gi N sc it y tg = true → SI tabs X tg y (runI G it)
def IHs (gi : GI) (G : Glo) (tabs : List Addr) (N : List Str) (es : Es) : Prop := ∀ {sc ts : Scope} {k : Nat} {X : Cx}, XOk gi G tabs N sc ts k X → ∀ l, okEs gi N sc es l = true → SA tabs X l (runEs G es)
theorem snd_lc (o : XOk gi G tabs N sc ts k X) {elt c : E} {t : T} {it : I} {x : Expr} (h : okE gi N sc (.lc elt t it c) x = true) (ihi : IHI gi G tabs N it) (ihc : IH gi G tabs N c) (ihe : IH gi G tabs N elt) : SE tabs X x (runE G (.lc elt t it c)) := fun B hB => by
  simp only [okE] at h
  cases e : asLC x with
  | none => rw [e] at h; cases h
  | some z =>
    rw [e] at h
    simp only [Bool.and_eq_true] at h
    obtain ⟨pos, rfl⟩ := asLC_some e
    obtain ⟨⟨⟨⟨h1, h2⟩, h3⟩, h4⟩, h5⟩ := h
    have ob := fun s H C cl fp => o.blk z.scope s H C cl fp
    have q := pe_lc (X := X) (pos := pos) (own := ownOf N t.slots) (tg := z.tg) (elt := z.elt) (te := tE X.K B (runE G elt)) (tt := tCnd X.K B G c) (g := gD X.K B t) o.calm (by rw [o.hN]; exact o.nd) (ihi o z.tg z.iter h2 B hB) (by rw [o.hN, o.sc]; exact blkOk_by h1) (fun s H C cl fp => pg_ok (ob s H C cl fp) B t z.tg h3) (fun s H C cl fp => snd_ifs h4 (ihc.st (ob s H C cl fp)) B hB) (fun s H C cl fp => ihe.se (ob s H C cl fp) z.elt h5 B hB) (notsetI (okI_set h2) _)
    rw [own_slots] at q
    exact q.imp fun σ H Q hq => lc_read hq
theorem snd_setLc (o : XOk gi G tabs N sc ts k X) {elt c : E} {t : T} {it : I} {x : Expr} (h : okE gi N sc (.lc elt t it c) x = true) (ihi : IHI gi G tabs N it) (ihc : IH gi G tabs N c) (ihe : IH gi G tabs N elt) {i : Nat} {y : Str} {py spos : Pos} (hy : N[i]? = some y) (hyl : sc.names.lookup y = some .local)
    (hsw : swapsWith x (some (.Name y py)) spos.line X.env = pure true) (B : Bs) (hB : B.tabs = tabs) : PS X (.Assign [.Name y py] x spos) (tAsg (tE X.K B (runE G (.lc elt t it c))) (gName i)) := by
  simp only [okE] at h
  cases e : asLC x with
  | none => rw [e] at h; cases h
  | some z =>
    rw [e] at h
    simp only [Bool.and_eq_true] at h
    obtain ⟨pos, rfl⟩ := asLC_some e
    obtain ⟨⟨⟨⟨h1, h2⟩, h3⟩, h4⟩, h5⟩ := h
    have ob := fun s H C cl fp => o.blk z.scope s H C cl fp
    have q := ps_setLc (X := X) (i := i) (y := y) (py := py) (spos := spos) (pos := pos) (own := ownOf N t.slots) (tg := z.tg) (elt := z.elt) (te := tE X.K B (runE G elt)) (tt := tCnd X.K B G c) (g := gD X.K B t) o.calm (by rw [o.hN]; exact o.nd) (by rw [o.hN]; exact hy) (by rw [o.sc]; exact hyl) hsw (ihi o z.tg z.iter h2 B hB) (by rw [o.hN, o.sc]; exact blkOk_by h1) (fun s H C cl fp => pg_ok (ob s H C cl fp) B t z.tg h3) (fun s H C cl fp => snd_ifs h4 (ihc.st (ob s H C cl fp)) B hB) (fun s H C cl fp => ihe.se (ob s H C cl fp) z.elt h5 B hB) (notsetI (okI_set h2) _)
    rw [own_slots] at q
    exact q.imp fun D σ H hq => lc_read hq
theorem snd_lc2 (o : XOk gi G tabs N sc ts k X) {elt c c' : E} {t t' : T} {it it' : I} {x : Expr} (h : okE gi N sc (.lc2 elt t it c t' it' c') x = true) (ihi : IHI gi G tabs N it) (ihc : IH gi G tabs N c) (ihi' : IHI gi G tabs N it') (ihc' : IH gi G tabs N c') (ihe : IH gi G tabs N elt) : SE tabs X x (runE G (.lc2 elt t it c t' it' c')) := fun B hB => by
  simp only [okE] at h
  cases e : asLC2 x with
  | none => rw [e] at h; cases h
  | some z =>
    rw [e] at h
    simp only [Bool.and_eq_true] at h
    obtain ⟨pos, rfl⟩ := asLC2_some e
    obtain ⟨⟨⟨⟨⟨⟨⟨h1, h2⟩, h3⟩, h4⟩, h5⟩, h6⟩, h7⟩, h8⟩ := h
    have ob := fun s H C cl fp => o.blk z.scope s H C cl fp
    have q := pe_lc2 (X := X) (pos := pos) (own := ownOf N (t.slots ++ t'.slots)) (vs1 := t'.slots) (tg := z.tg) (tg1 := z.tg') (elt := z.elt) (te := tE X.K B (runE G elt)) (tt := tCnd X.K B G c) (tt1 := tCnd X.K B G c') (g := gD X.K B t) (g1 := gD X.K B t') (wi1 := iD X.K B (runI G it')) o.calm (by rw [o.hN]; exact o.nd) (ihi o z.tg z.iter h2 B hB) (by rw [o.hN, o.sc]; exact blkOk_by h1) (fun i hi => by rw [own_slots]; exact List.mem_append_right _ hi)
      (fun s H C cl fp => pg_ok (ob s H C cl fp) B t z.tg h3) (fun s H C cl fp => snd_ifs h4 (ihc.st (ob s H C cl fp)) B hB) (fun s H C cl fp => ihi' (ob s H C cl fp) z.tg' z.iter' h5 B hB) (fun s H C cl fp => pg_ok (ob s H C cl fp) B t' z.tg' h6) (fun s H C cl fp => snd_ifs h7 (ihc'.st (ob s H C cl fp)) B hB) (fun s H C cl fp => ihe.se (ob s H C cl fp) z.elt h8 B hB) (notsetI (okI_set h2) _) (notsetI (okI_set h5))
    rw [own_slots] at q
    exact q.imp fun σ H Q hq => lc2_read hq
theorem snd_setLc2 (o : XOk gi G tabs N sc ts k X) {elt c c' : E} {t t' : T} {it it' : I} {x : Expr} (h : okE gi N sc (.lc2 elt t it c t' it' c') x = true) (ihi : IHI gi G tabs N it) (ihc : IH gi G tabs N c) (ihi' : IHI gi G tabs N it') (ihc' : IH gi G tabs N c') (ihe : IH gi G tabs N elt) {i : Nat} {y : Str} {py spos : Pos} (hy : N[i]? = some y) (hyl : sc.names.lookup y = some .local)
    (hsw : swapsWith x (some (.Name y py)) spos.line X.env = pure true) (B : Bs) (hB : B.tabs = tabs) : PS X (.Assign [.Name y py] x spos) (tAsg (tE X.K B (runE G (.lc2 elt t it c t' it' c'))) (gName i)) := by
  simp only [okE] at h
  cases e : asLC2 x with
  | none => rw [e] at h; cases h
  | some z =>
    rw [e] at h
    simp only [Bool.and_eq_true] at h
    obtain ⟨pos, rfl⟩ := asLC2_some e
    obtain ⟨⟨⟨⟨⟨⟨⟨h1, h2⟩, h3⟩, h4⟩, h5⟩, h6⟩, h7⟩, h8⟩ := h
    have ob := fun s H C cl fp => o.blk z.scope s H C cl fp
    have q := ps_setLc2 (X := X) (i := i) (y := y) (py := py) (spos := spos) (pos := pos) (own := ownOf N (t.slots ++ t'.slots)) (vs1 := t'.slots) (tg := z.tg) (tg1 := z.tg') (elt := z.elt) (te := tE X.K B (runE G elt)) (tt := tCnd X.K B G c) (tt1 := tCnd X.K B G c') (g := gD X.K B t) (g1 := gD X.K B t') (wi1 := iD X.K B (runI G it')) o.calm (by rw [o.hN]; exact o.nd) (by rw [o.hN]; exact hy) (by rw [o.sc]; exact hyl) hsw (ihi o z.tg z.iter h2 B hB) (by rw [o.hN, o.sc]; exact blkOk_by h1) (fun i hi => by rw [own_slots]; exact List.mem_append_right _ hi)
      (fun s H C cl fp => pg_ok (ob s H C cl fp) B t z.tg h3) (fun s H C cl fp => snd_ifs h4 (ihc.st (ob s H C cl fp)) B hB) (fun s H C cl fp => ihi' (ob s H C cl fp) z.tg' z.iter' h5 B hB) (fun s H C cl fp => pg_ok (ob s H C cl fp) B t' z.tg' h6) (fun s H C cl fp => snd_ifs h7 (ihc'.st (ob s H C cl fp)) B hB) (fun s H C cl fp => ihe.se (ob s H C cl fp) z.elt h8 B hB) (notsetI (okI_set h2) _) (notsetI (okI_set h5))
    rw [own_slots] at q
    exact q.imp fun D σ H hq => lc2_read hq
end
end Gw

set_option Elab.async false
set_option linter.all false
set_option maxRecDepth 100000
set_option maxHeartbeats 2000000
/-! The value layer: sets of ints and texts, whose order in the table is known enough to gather them. -/
namespace Gw
open PySem PySem.Spec PyProof.Rows L2

def mkey : Value → Key
  | .int k _ => .inl k
  | .str x _ => .inr x
  | _ => .inl 0
theorem mkey_of {k : Key} {u : Value} (r : RelV (kV k) u) : mkey u = k := by
  cases k with
  | inl i => obtain ⟨t, rfl⟩ := (show ∃ t, u = Value.int i t from r); rfl
  | inr x => obtain ⟨t, rfl⟩ := (show ∃ t, u = Value.str x t from r); rfl
section
variable {P : Program} {w : World} {h h' : Heap} {a : Addr} {S : Key → Bool} {n : Nat}
def GoodM (w : World) (e : Int × Value) : Prop := ∃ k, RelV (kV k) e.2 ∧ e.1 = keyH w k
def keysM (l : List (Int × Value)) : List Key := l.map fun e => mkey e.2
def SetM (w : World) (h : Heap) (a : Addr) (S : Key → Bool) (n : Nat) : Prop :=
  ∃ o es ep t, h.get? a = some o ∧ o.ExactSet ∧ o.data = .set es ep t ∧ (∀ e ∈ es.toList, GoodM w e) ∧ (keysM es.toList).Nodup ∧ (∀ k, S k = true ↔ k ∈ keysM es.toList) ∧
    es.size < scanBound ∧ t.fits es.size = true ∧ es.size = n ∧ Ris t.place.toList ∧ (w.params.followText "set-order" = true ∨ t.led = true)
theorem SetM.at (R : SetM w h a S n) (k : ∀ o, h.get? a = some o → h'.get? a = some o) : SetM w h' a S n := by
  obtain ⟨o, es, ep, t, ho, r⟩ := R
  exact ⟨o, es, ep, t, k o ho, r⟩
theorem goodM_elems {l : List (Int × Value)} (g : ∀ e ∈ l, GoodM w e) : ElemsOf (mixKind P w) l := fun e he => by
  obtain ⟨k, h1, h2⟩ := g e he
  exact ⟨⟨k, kV_is h1, h2⟩, key_scan h1⟩
theorem goodM_is {e : Int × Value} (g : GoodM w e) (k : Key) : (mixKind P w).is k e.2 = true ↔ mkey e.2 = k := by
  obtain ⟨k0, h1, _⟩ := g
  rw [mkey_of h1]
  constructor
  · intro h
    exact ((mixKind P w).inj e.2 k k0 h (kV_is h1)).symm
  · rintro rfl
    exact kV_is h1
theorem goodM_mem {l : List (Int × Value)} (g : ∀ e ∈ l, GoodM w e) (k : Key) : k ∈ keysM l ↔ ∃ e ∈ l, (mixKind P w).is k e.2 = true := by
  unfold keysM
  rw [List.mem_map]
  constructor
  · rintro ⟨e, he, q⟩
    exact ⟨e, he, (goodM_is (P := P) (g e he) k).2 q⟩
  · rintro ⟨e, he, q⟩
    exact ⟨e, he, (goodM_is (P := P) (g e he) k).1 q⟩
theorem SetM.setOf (R : SetM w h a S n) : h.SetOf (mixKind P w) a S n := by
  obtain ⟨o, es, ep, t, ho, hx, hd, g, nd, hm, hb, hf, hn, _⟩ := R
  exact ⟨o, es, ep, t, ho, hx, hd, goodM_elems g, fun k => (hm k).trans (goodM_mem g k), hb, hf, hn⟩
end
section
variable {P : Program} {w : World} {A : Around} {E : Value → Shared → Prop} {s : Shared} {a : Addr} {S : Key → Bool} {n : Nat}
theorem setM_tail {g : Bool → Sem Unit} (hg : ∀ (b : Bool) (s₁ : Shared) (Q' : Unit → Shared → Prop), Q' () s₁ → wpAny (model P w) A (g b) Q' E s₁)
    {o : Obj} {es : Array (Int × Value)} {ep : Nat} {t : SetTable} (ho : s.heap.get? a = some o) (hex : o.ExactSet) (hd : o.data = .set es ep t)
    {es1 : Array (Int × Value)} {t2 : SetTable} {S' : Key → Bool} (g1 : ∀ e ∈ es1.toList, GoodM w e) (nd1 : (keysM es1.toList).Nodup) (m1 : ∀ k, S' k = true ↔ k ∈ keysM es1.toList)
    (hb1 : es1.size < scanBound) (hf2 : t2.fits es1.size = true) (hr : Ris t2.place.toList) (hl : w.params.followText "set-order" = true ∨ t2.led = true) {wasDummy : Bool} {R : Option Bool → Shared → Prop}
    (hR : ∀ h', Heap.SameBut a s.heap h' → SetM w h' a S' es1.size → R (some true) { s with heap := h' }) :
    wpAny (model P w) A (do
        storeSet a es1 t2
        if (!wasDummy && t2.tooFull) = true then do
            g (relayAll t2 es1 (SetTable.grown es1.size)).2.2
            storeSet a (relayAll t2 es1 (SetTable.grown es1.size)).1 (relayAll t2 es1 (SetTable.grown es1.size)).2.1
            pure (some true)
          else pure (some true)) R E s := by
  refine wpAny_bind (wpAny_storeSet_of ho hd ?_ (fits_of_scanBound hb1))
  have ho1 := store_at (es' := es1) (t' := t2) ho hd
  have sb1 := Heap.SameBut.update s.heap a (Obj.putSet es1 t2)
  split
  · have pm := relayAll_perm t2 es1 (SetTable.grown es1.size)
    have hf3 := relayAll_fits t2 es1 (SetTable.grown es1.size)
    have hr3 := relayAll_ris t2 es1 (SetTable.grown es1.size)
    have hl3 := relayAll_led t2 es1 (SetTable.grown es1.size)
    generalize relayAll t2 es1 (SetTable.grown es1.size) = Z at pm hf3 hr3 hl3 ⊢
    obtain ⟨es2, t3, gave⟩ := Z
    dsimp only at pm hf3 hr3 hl3 ⊢
    have hsz : es2.size = es1.size := by rw [← Array.length_toList, pm.length_eq, Array.length_toList]
    have hb2 : es2.size < scanBound := by rw [hsz]; exact hb1
    refine wpAny_bind (hg _ _ _ ?_)
    refine wpAny_bind (wpAny_storeSet_of ho1 rfl ?_ (fits_of_scanBound hb2))
    have ho2 := store_at (es' := es2) (t' := t3) ho1 rfl
    have pk : (keysM es2.toList).Perm (keysM es1.toList) := pm.map _
    refine wpAny_pure (hR _ (sb1.trans (Heap.SameBut.update _ a _)) ?_)
    exact ⟨_, es2, _, t3, ho2, hex, rfl, fun e he => g1 e (pm.mem_iff.mp he), pk.nodup_iff.mpr nd1, fun k => (m1 k).trans pk.mem_iff.symm, hb2, hf3, hsz, hr3, hl.imp id fun z => by rw [hl3]; exact z⟩
  · exact wpAny_pure (hR _ sb1 ⟨_, es1, _, t2, ho1, hex, rfl, g1, nd1, m1, hb1, hf2, rfl, hr, hl⟩)
theorem setM_hashed {k : Key} {u : Value} (ru : RelV (kV k) u) {Q : Bool → Shared → Prop} (R : SetM w s.heap a S n) (room : n + 1 < scanBound)
    (hQ : ∀ h', Heap.SameBut a s.heap h' → SetM w h' a (fun j => S j || decide (j = k)) (if S k = true then n else n + 1) → Q (!S k) { s with heap := h' }) :
    wpAny (model P w) A (setAddHashed a u ((mixKind P w).hash k)) Q E s := by
  obtain ⟨o, es, ep, t, ho, hex, hd, g, nd, hm, hb, hf, hn, hr, hl⟩ := R
  have hkey : (mixKind P w).is k u = true := kV_is ru
  have hsc : u.scannable = true := key_scan ru
  have hel : ElemsOf (mixKind P w) es.toList := goodM_elems g
  unfold setAddHashed setAddHashedIn
  refine wpAny_holding (wpAny_bind (wpAny_setState_of ho hd hf ?_))
  dsimp only
  rw [byScan_of hsc hb hel]
  simp only [↓reduceIte]
  unfold setAddByScan
  refine wpAny_bind ?_
  refine wpAny_bind (wpAny_rule ?_)
  refine wpAny_bind (wpAny_setScan_of hkey ho hd hf hel ?_)
  cases hfi : List.findIdx? (fun e => (mixKind P w).is k e.2) es.toList with
  | some j =>
    dsimp only
    obtain ⟨hj, pj, _⟩ := List.findIdx?_eq_some_iff_getElem.mp hfi
    have hSk : S k = true := (hm k).2 ((goodM_mem (P := P) (w := w) g k).2 ⟨es.toList[j], List.getElem_mem hj, pj⟩)
    refine wpAny_pure (wpAny_pure ?_)
    have q := hQ s.heap (Heap.SameBut.refl a s.heap) ⟨o, es, ep, t, ho, hex, hd, g, nd, fun i => by
      rw [Bool.or_eq_true, decide_eq_true_eq, ← hm i]
      exact ⟨fun z => z.elim id (fun e => e ▸ hSk), .inl⟩, hb, hf, by rw [if_pos hSk]; exact hn, hr, hl⟩
    rw [hSk] at q
    exact q
  | none =>
    dsimp only
    have hnk : k ∉ keysM es.toList := fun z => by
      obtain ⟨e, he, q⟩ := (goodM_mem (P := P) (w := w) g k).1 z
      have c := List.findIdx?_eq_none_iff.mp hfi e he
      rw [q] at c
      cases c
    have hSk : S k = false := by
      cases q : S k with
      | false => rfl
      | true => exact absurd ((hm k).1 q) hnk
    have hgw : ∀ (b : Bool) {s₁ : Shared} {Q' : Unit → Shared → Prop}, Q' () s₁ → wpAny (model P w) A (match b with | true => rule "set.scan.the-table-gave-way" | false => pure ()) Q' E s₁ :=
      fun b s₁ Q' q => by cases b <;> first | exact wpAny_pure q | exact wpAny_rule q
    have pm := layNew_perm t es ((mixKind P w).hash k) u
    have hf1 := layNew_fits t es ((mixKind P w).hash k) u
    have hr1 := layNew_ris t es ((mixKind P w).hash k) u hr
    have hl1 := layNew_led t es ((mixKind P w).hash k) u
    generalize layNew t es ((mixKind P w).hash k) u = Z at pm hf1 hr1 hl1 ⊢
    obtain ⟨es1, t1, wasDummy, gave⟩ := Z
    dsimp only at pm hf1 hr1 hl1 ⊢
    rw [Array.toList_push] at pm
    have pc : es1.toList.Perm (((mixKind P w).hash k, u) :: es.toList) := pm.trans (List.perm_append_singleton _ _)
    have pk : (keysM es1.toList).Perm (k :: keysM es.toList) := by
      have q := pc.map fun e => mkey e.2
      rw [List.map_cons, mkey_of ru] at q
      exact q
    have g1 : ∀ e ∈ es1.toList, GoodM w e := fun e he => by
      rcases List.mem_cons.mp (pc.mem_iff.mp he) with z | z
      · rw [z]; exact ⟨k, ru, rfl⟩
      · exact g e z
    have nd1 : (keysM es1.toList).Nodup := pk.nodup_iff.mpr (List.nodup_cons.mpr ⟨hnk, nd⟩)
    have m1 : ∀ i, (S i || decide (i = k)) = true ↔ i ∈ keysM es1.toList := fun i => by
      rw [Bool.or_eq_true, decide_eq_true_eq, hm i, pk.mem_iff, List.mem_cons]
      exact Or.comm
    have hsz : es1.size = n + 1 := by rw [← Array.length_toList, pc.length_eq, List.length_cons, Array.length_toList, hn]
    have hb1 : es1.size < scanBound := by rw [hsz]; exact room
    have hled : w.params.followText "set-order" = true ∨ t1.led = true := hl.imp id fun z => by rw [hl1]; exact z
    have fin : ∀ h', Heap.SameBut a s.heap h' → SetM w h' a (fun j => S j || decide (j = k)) es1.size → Q true { s with heap := h' } := fun h' sb r => by
      have q := hQ h' sb
      rw [hSk] at q
      rw [hsz] at r
      exact q r
    refine wpAny_bind (hgw _ ?_)
    split
    · refine wpAny_bind ?_
      rw [hashByValue_scannable 8 hsc]
      refine wpAny_pure ?_
      refine setM_tail ?_ ho hex hd g1 nd1 m1 hb1 ?_ ?_ ?_ ?_
      · intro b s₁ Q' q; cases b <;> first | exact wpAny_pure q | exact wpAny_rule q
      · first | (split <;> first | exact hf1 | exact SetTable.fits_plain_off hf1) | exact hf1
      · first | (split <;> exact hr1) | exact hr1
      · first | (split <;> exact hled) | exact hled
      · intro h' sb r; dsimp only; exact wpAny_pure (fin h' sb r)
    · refine wpAny_bind (wpAny_pure ?_)
      simp only [↓reduceIte]
      refine setM_tail ?_ ho hex hd g1 nd1 m1 hb1 hf1 hr1 hled ?_
      · intro b s₁ Q' q; cases b <;> first | exact wpAny_pure q | exact wpAny_rule q
      · intro h' sb r; dsimp only; exact wpAny_pure (fin h' sb r)
theorem setM_add {k : Key} {u : Value} (ru : RelV (kV k) u) {Q : Value → Shared → Prop} (R : SetM w s.heap a S n) (room : n + 1 < scanBound)
    (hQ : ∀ h', Heap.SameBut a s.heap h' → SetM w h' a (fun j => S j || decide (j = k)) (if S k = true then n else n + 1) → Q .none { s with heap := h', toks := s.toks + 1 }) :
    wpAny (model P w) A (call (.builtin "set.add") [.ref a, u]) Q E s := by
  have hS : s.heap.SetOf (mixKind P w) a S n := R.setOf
  refine wpAny_call_entry F.slot_set_add hS.typeIs F.entry_set_add ?_ (F.args_set_add_2 _ _)
  unfold Builtin.«set.add» Builtin.Frozenset.oneOther
  simp only [List.isEmpty_nil, bind_assoc]
  unfold Builtin.Frozenset.addrOf setAdd
  refine wpAny_bind (wpAny_pure ?_)
  try dsimp only
  refine wpAny_bind (wpAny_pure ?_)
  try dsimp only
  refine wpAny_bind ?_
  refine wpAny_holding ?_
  refine wpAny_bind ((mixKind P w).pyHash (kV_is ru) ?_)
  refine setM_hashed (s := { s with toks := s.toks + 1 }) ru R room fun h' sb r => ?_
  show wpAny _ _ (ret Value.none) _ _ _
  exact wpAny_pure ⟨_, rfl, hQ h' sb r⟩
theorem setM_fresh {h : Heap} (w : World) : SetM w (h.push { cls := .type "set", dict := none, data := .set #[] 0 (.fresh 0 0 (!w.params.followText "set-order")) }) h.objs.size (fun _ => false) 0 :=
  ⟨_, #[], 0, _, Heap.get?_push_size _ rfl, ⟨rfl, rfl, rfl⟩, rfl, (fun e he => by simp at he), (by simp [keysM]), (fun k => by simp [keysM]), (by decide), (by rfl), rfl, List.Pairwise.nil, by
    show _ ∨ (!w.params.followText "set-order") = true
    cases w.params.followText "set-order"
    · exact .inr rfl
    · exact .inl rfl⟩
end
def SetMO (w : World) (a : Addr) (S : Key → Bool) (n : Nat) : HO := .ext fun h => SetM w h a S n
theorem setMO_new {w : World} {P : Program} {H : Hp} {h : Heap} {a : Addr} {S : Key → Bool} {n : Nat} (R : SetM w h a S n) : ObjOk P w H h a (SetMO w a S n) := by
  have ⟨o, _, _, _, ho, _⟩ := R
  exact ⟨R, ⟨o, ho⟩, fun h1 h2 p k => SetM.at p k⟩
section
variable {X : Cx}
theorem setMO_get {pins : List (Addr × Obj)} {σ : L2.St} {H : Hp} {s : Shared} {a : Addr} {S : Key → Bool} {n : Nat} (I : L2.Inv X pins σ H s) (ha : H a = some (SetMO X.w a S n)) : SetM X.w s.heap a S n := (I.hok a _ ha).1
theorem addM_ok {pins : List (Addr × Obj)} {σ : L2.St} {H : Hp} {s : Shared} {E : Value → Shared → Prop} {Da : Addr} {S : Key → Bool} {n : Nat} {k : Key} {u : Value} {Q : Value → Shared → Prop} (I : L2.Inv X pins σ H s) (ru : RelV (kV k) u) (hD : H Da = some (SetMO X.w Da S n)) (room : n + 1 < scanBound)
    (h : ∀ s', L2.Inv X pins σ (upd H Da (SetMO X.w Da (fun j => S j || decide (j = k)) (if S k = true then n else n + 1))) s' → Q .none s') : wpAny (model X.prog X.w) X.A (call (.builtin "set.add") [.ref Da, u]) Q E s := by
  have R := setMO_get I hD
  refine setM_add ru R room fun h' sb new => ?_
  have he : ∃ u, h'.get? Da = some u := by
    have ⟨o, _, _, _, ho, _⟩ := new
    exact ⟨o, ho⟩
  exact h _ (I.write (e := Da) (t' := s.toks + 1) (by rw [hD]; trivial) (.inl rfl) (fun b u hb hu => (sb.2 b hb).trans hu) he (setMO_new new))
end
end Gw

set_option Elab.async false
set_option linter.all false
set_option maxRecDepth 100000
set_option maxHeartbeats 1000000
/-! The value layer: sorted sets of keys, as lists. Plain Lean. -/
namespace Gw
theorem ltL_irr : ∀ l : List Nat, ltL l l = false
  | [] => rfl
  | a :: l => by simp [ltL, ltL_irr l]
theorem ltL_trans : ∀ {a b c : List Nat}, ltL a b = true → ltL b c = true → ltL a c = true
  | _, [], _, h, _ => by simp [ltL] at h
  | _, _ :: _, [], _, h => by simp [ltL] at h
  | [], _ :: _, _ :: _, _, _ => by simp [ltL]
  | a :: as, b :: bs, c :: cs, h, g => by
    simp only [ltL] at h g ⊢
    split at h
    · split at g
      · rw [if_pos (by omega)]
      · split at g
        · rw [if_pos (by omega)]
        · cases g
    · split at h
      · rename_i e
        subst e
        split at g
        · rw [if_pos (by omega)]
        · split at g
          · rename_i e2
            subst e2
            rw [if_neg (by omega), if_pos rfl]
            exact ltL_trans h g
          · cases g
      · cases h
theorem ltL_tri : ∀ a b : List Nat, ltL a b = true ∨ a = b ∨ ltL b a = true
  | [], [] => .inr (.inl rfl)
  | [], _ :: _ => .inl rfl
  | _ :: _, [] => .inr (.inr rfl)
  | a :: as, b :: bs => by
    simp only [ltL]
    by_cases h : a < b
    · left; rw [if_pos h]
    · by_cases h2 : b < a
      · right; right; rw [if_pos h2]
      · have e : a = b := by omega
        subst e
        rcases ltL_tri as bs with q | q | q
        · left; rw [if_neg h, if_pos rfl]; exact q
        · right; left; rw [q]
        · right; right; rw [if_neg h, if_pos rfl]; exact q
theorem key_irr {a : D} (h : a.isKey = true) : D.ltb a a = false := by
  cases a <;> simp [D.isKey] at h
  · simp [D.ltb]
  · simp [D.ltb, ltL_irr]
theorem key_trans {a b c : D} (ha : a.isKey = true) (hb : b.isKey = true) (h : D.ltb a b = true) (g : D.ltb b c = true) : D.ltb a c = true := by
  cases a <;> simp [D.isKey] at ha <;> cases b <;> simp [D.isKey] at hb <;> first | (simp [D.ltb] at h; done) | skip
  · cases c <;> simp [D.ltb] at h g ⊢
    omega
  · cases c <;> simp [D.ltb] at h g ⊢
    exact ltL_trans h g
theorem key_tri {a b : D} (ha : a.isKey = true) (h : D.alike a b = true) : D.ltb a b = true ∨ a = b ∨ D.ltb b a = true := by
  cases a <;> simp [D.isKey] at ha <;> cases b <;> simp [D.alike] at h
  · rename_i i j
    simp only [D.ltb, decide_eq_true_eq, D.int.injEq]
    omega
  · rename_i i j
    simp only [D.ltb, D.str.injEq]
    exact ltL_tri i j
theorem key_eqb {a b : D} (ha : a.isKey = true) (h : D.alike a b = true) : D.eqb a b = true ↔ a = b := by
  cases a <;> simp [D.isKey] at ha <;> cases b <;> simp [D.alike] at h <;> simp [D.eqb]
def Kall (ds : List D) : Prop := (∀ a ∈ ds, a.isKey = true) ∧ ∀ a ∈ ds, ∀ b ∈ ds, D.alike a b = true
theorem Kall.tail {a : D} {ds : List D} (h : Kall (a :: ds)) : Kall ds := ⟨fun x hx => h.1 x (List.mem_cons_of_mem _ hx), fun x hx y hy => h.2 x (List.mem_cons_of_mem _ hx) y (List.mem_cons_of_mem _ hy)⟩
theorem Kall.sub {ds es : List D} (h : Kall ds) (s : ∀ x ∈ es, x ∈ ds) : Kall es := ⟨fun x hx => h.1 x (s x hx), fun x hx y hy => h.2 x (s x hx) y (s y hy)⟩
theorem insD_mem {x y : D} : ∀ {l : List D}, y ∈ insD x l ↔ y = x ∨ y ∈ l
  | [] => by simp [insD]
  | z :: l => by
    unfold insD
    split
    · rw [List.mem_cons, insD_mem, List.mem_cons]
      constructor
      · rintro (h | h | h) <;> simp [h]
      · rintro (h | h | h) <;> simp [h]
    · rw [List.mem_cons]
def LeD (a b : D) : Prop := D.ltb b a = false
theorem LeD.lt {a b c : D} (ha : a.isKey = true) (hb : b.isKey = true) (hc : c.isKey = true) (hab : D.alike a b = true) (h : D.ltb a b = true) (g : LeD b c) : LeD a c := by
  unfold LeD at *
  cases e : D.ltb c a with
  | false => rfl
  | true =>
    have := key_trans hc ha e h
    rw [g] at this; cases this
theorem insD_sorted {x : D} : ∀ {l : List D}, Kall (x :: l) → l.Pairwise LeD → (insD x l).Pairwise LeD
  | [], _, _ => by simp [insD]
  | y :: l, k, p => by
    obtain ⟨p1, p2⟩ := List.pairwise_cons.mp p
    unfold insD
    have hx := k.1 x List.mem_cons_self
    have hy := k.1 y (by simp)
    split
    · rename_i h
      refine List.pairwise_cons.mpr ⟨fun z hz => ?_, insD_sorted ⟨fun a ha => k.1 a ?_, fun a ha b hb => k.2 a ?_ b ?_⟩ p2⟩
      · rcases insD_mem.mp hz with rfl | hz
        · unfold LeD
          cases e : D.ltb z y with
          | false => rfl
          | true =>
            have := key_trans hx hy e h
            rw [key_irr hx] at this; cases this
        · exact p1 z hz
      · rcases List.mem_cons.mp ha with rfl | h <;> simp [*]
      · rcases List.mem_cons.mp ha with rfl | h <;> simp [*]
      · rcases List.mem_cons.mp hb with rfl | h <;> simp [*]
    · rename_i h
      have h : D.ltb y x = false := by simpa using h
      refine List.pairwise_cons.mpr ⟨fun z hz => ?_, p⟩
      rcases List.mem_cons.mp hz with rfl | hzl
      · exact h
      · unfold LeD
        cases e : D.ltb z x with
        | false => rfl
        | true =>
          have hz' := k.1 z (by simp [hzl])
          rcases key_tri hx (k.2 x (by simp) y (by simp)) with q | q | q
          · have := key_trans hz' hx e q
            have q2 := p1 z hzl
            unfold LeD at q2
            rw [q2] at this; cases this
          · subst q
            have q2 := p1 z hzl
            unfold LeD at q2
            rw [q2] at e; cases e
          · rw [h] at q; cases q
theorem sortD_sorted : ∀ {l : List D}, Kall l → (sortD l).Pairwise LeD
  | [], _ => List.Pairwise.nil
  | x :: l, k => by
    show (insD x (sortD l)).Pairwise LeD
    refine insD_sorted (k.sub fun y hy => ?_) (sortD_sorted k.tail)
    rcases List.mem_cons.mp hy with rfl | hy
    · simp
    · exact List.mem_cons_of_mem _ (sortD_mem.mp hy)
def LtD (a b : D) : Prop := D.ltb a b = true
theorem uniqD_mem : ∀ {l : List D} {x : D}, Kall l → (x ∈ uniqD l ↔ x ∈ l)
  | [], _, _ => Iff.rfl
  | y :: l, x, k => by
    have ih := uniqD_mem (l := l) (x := x) k.tail
    unfold uniqD
    cases e : uniqD l with
    | nil =>
      rw [e] at ih
      simp only [List.mem_cons, ← ih]
    | cons z t =>
      rw [e] at ih
      simp only
      have hz : z ∈ l := by
        have := uniqD_mem (l := l) (x := z) k.tail
        rw [e] at this
        exact this.mp List.mem_cons_self
      split
      · rename_i h
        have := (key_eqb (k.1 y (by simp)) (k.2 y (by simp) z (by simp [hz]))).mp h
        subst this
        refine ⟨fun h => List.mem_cons_of_mem _ (ih.mp h), fun h => ?_⟩
        rcases List.mem_cons.mp h with rfl | h
        · exact List.mem_cons_self
        · exact ih.mpr h
      · rw [List.mem_cons, ih, List.mem_cons]
theorem uniqD_sorted : ∀ {l : List D}, Kall l → l.Pairwise LeD → (uniqD l).Pairwise LtD
  | [], _, _ => List.Pairwise.nil
  | y :: l, k, p => by
    obtain ⟨p1, p2⟩ := List.pairwise_cons.mp p
    have ih := uniqD_sorted k.tail p2
    unfold uniqD
    cases e : uniqD l with
    | nil => exact List.pairwise_singleton _ _
    | cons z t =>
      rw [e] at ih
      simp only
      have hz : z ∈ l := by
        have := uniqD_mem (l := l) (x := z) k.tail
        rw [e] at this
        exact this.mp List.mem_cons_self
      have hy := k.1 y (by simp)
      have hzk := k.1 z (by simp [hz])
      split
      · exact ih
      · rename_i h
        have ne : y ≠ z := fun q => h ((key_eqb hy (k.2 y (by simp) z (by simp [hz]))).mpr q)
        have yz : LtD y z := by
          rcases key_tri hy (k.2 y (by simp) z (by simp [hz])) with q | q | q
          · exact q
          · exact (ne q).elim
          · have := p1 z hz
            unfold LeD at this
            rw [this] at q; cases q
        refine List.pairwise_cons.mpr ⟨fun x hx => ?_, ih⟩
        rcases List.mem_cons.mp hx with rfl | hx
        · exact yz
        · exact key_trans hy hzk yz ((List.pairwise_cons.mp ih).1 x hx)
theorem strict_eq : ∀ {l m : List D}, (∀ x ∈ l, x.isKey = true) → l.Pairwise LtD → m.Pairwise LtD → (∀ x, x ∈ l ↔ x ∈ m) → l = m
  | [], [], _, _, _, _ => rfl
  | [], y :: m, _, _, _, h => by have := (h y).mpr List.mem_cons_self; cases this
  | x :: l, [], _, _, _, h => by have := (h x).mp List.mem_cons_self; cases this
  | x :: l, y :: m, k, p, q, h => by
    obtain ⟨p1, p2⟩ := List.pairwise_cons.mp p
    obtain ⟨q1, q2⟩ := List.pairwise_cons.mp q
    have hx := k x List.mem_cons_self
    have irr : ∀ {a : D}, a.isKey = true → ¬ LtD a a := fun {a} h z => by
      unfold LtD at z
      rw [key_irr h] at z; cases z
    have e : x = y := by
      rcases List.mem_cons.mp ((h x).mp List.mem_cons_self) with e | hx2
      · exact e
      · rcases List.mem_cons.mp ((h y).mpr List.mem_cons_self) with e | hy2
        · exact e.symm
        · have hy := k y (List.mem_cons_of_mem _ hy2)
          exact (irr hx (key_trans hx hy (p1 y hy2) (q1 x hx2))).elim
    subst e
    rw [strict_eq (fun a ha => k a (List.mem_cons_of_mem _ ha)) p2 q2 fun a => ?_]
    constructor
    · intro ha
      rcases List.mem_cons.mp ((h a).mp (List.mem_cons_of_mem _ ha)) with e | z
      · exact (irr hx (e ▸ p1 a ha)).elim
      · exact z
    · intro ha
      rcases List.mem_cons.mp ((h a).mpr (List.mem_cons_of_mem _ ha)) with e | z
      · exact (irr hx (e ▸ q1 a ha)).elim
      · exact z
theorem lt_of_nodup : ∀ {l : List D}, Kall l → l.Pairwise LeD → l.Nodup → l.Pairwise LtD
  | [], _, _, _ => List.Pairwise.nil
  | y :: l, k, p, d => by
    obtain ⟨p1, p2⟩ := List.pairwise_cons.mp p
    obtain ⟨d1, d2⟩ := List.nodup_cons.mp d
    refine List.pairwise_cons.mpr ⟨fun x hx => ?_, lt_of_nodup k.tail p2 d2⟩
    rcases key_tri (k.1 y (by simp)) (k.2 y (by simp) x (by simp [hx])) with q | q | q
    · exact q
    · exact (d1 (q ▸ hx)).elim
    · have := p1 x hx
      unfold LeD at this
      rw [this] at q; cases q
theorem insD_nodup {x : D} : ∀ {l : List D}, x ∉ l → l.Nodup → (insD x l).Nodup
  | [], _, _ => by simp [insD]
  | y :: l, h, d => by
    obtain ⟨d1, d2⟩ := List.nodup_cons.mp d
    unfold insD
    split
    · refine List.nodup_cons.mpr ⟨fun z => ?_, insD_nodup (fun q => h (List.mem_cons_of_mem _ q)) d2⟩
      rcases insD_mem.mp z with e | z
      · exact h (by simp [e])
      · exact d1 z
    · exact List.nodup_cons.mpr ⟨h, d⟩
theorem sortD_nodup : ∀ {l : List D}, l.Nodup → (sortD l).Nodup
  | [], _ => List.nodup_nil
  | x :: l, d => by
    obtain ⟨d1, d2⟩ := List.nodup_cons.mp d
    exact insD_nodup (fun q => d1 (sortD_mem.mp q)) (sortD_nodup d2)
/-- a set's members, sorted -/
theorem sort_set {L acc : List D} (k : Kall acc) (d : L.Nodup) (h : ∀ x, x ∈ L ↔ x ∈ acc) : sortD L = uniqD (sortD acc) := by
  have kL : Kall L := k.sub fun x hx => (h x).mp hx
  have ks : Kall (sortD acc) := k.sub fun x hx => sortD_mem.mp hx
  have kl : Kall (sortD L) := kL.sub fun x hx => sortD_mem.mp hx
  refine strict_eq kl.1 (lt_of_nodup kl (sortD_sorted kL) (sortD_nodup d)) (uniqD_sorted ks (sortD_sorted k)) fun x => ?_
  rw [sortD_mem, uniqD_mem ks, sortD_mem, h]
end Gw

set_option Elab.async false
set_option linter.all false
set_option maxRecDepth 100000
set_option maxHeartbeats 2000000
/-! The value layer: sorted(set comprehension) of ints or texts. -/
namespace Gw
open PySem PySem.Spec PyProof.Rows L2
def kD : D → Option Key
  | .int i => some (.inl i)
  | .str l => some (.inr (mkS l))
  | _ => none
def dK : Key → D
  | .inl i => .int i
  | .inr s => .str s.cps.toList
theorem dK_kD {d : D} {k : Key} (h : kD d = some k) : dK k = d := by
  cases d <;> simp [kD] at h <;> subst h <;> rfl
theorem kD_dK (k : Key) : kD (dK k) = some k := by cases k <;> rfl
theorem dK_inj {a b : Key} (h : dK a = dK b) : a = b := by
  have := congrArg kD h
  rw [kD_dK, kD_dK] at this
  exact Option.some.inj this
theorem kD_key {d : D} (h : d.isKey = true) : ∃ k, kD d = some k := by cases d <;> simp [D.isKey] at h <;> exact ⟨_, rfl⟩
theorem dK_key (k : Key) : (dK k).isKey = true := by cases k <;> rfl
theorem kV_rp {K : PySem.W.Frag} {M : Addr → Prop} {H : Hp} (k : Key) : Rp K M H (kV k) (dK k) := by
  cases k with
  | inl i => exact .int i
  | inr s => exact .str s.cps.toList
theorem sortable_sub {ds es : List D} (h : sortable ds = true) (s : ∀ x ∈ es, x ∈ ds) : sortable es = true := by
  obtain ⟨h1, h2, h3, h4⟩ := sortable_iff h
  have n1 : ∀ es : List D, (∀ x ∈ es, x ∈ ds) → D.nodcts es = true := by
    intro es
    induction es with
    | nil => intro _; rfl
    | cons e es ih =>
      intro s
      simp only [D.nodcts, Bool.and_eq_true]
      exact ⟨nodct_mem h1 e (s e List.mem_cons_self), ih fun x hx => s x (List.mem_cons_of_mem _ hx)⟩
  have n2 : ∀ es : List D, (∀ x ∈ es, x ∈ ds) → D.depths es ≤ 60 := by
    intro es
    induction es with
    | nil => intro _; exact Nat.zero_le _
    | cons e es ih =>
      intro s
      simp only [D.depths]
      have a := depth_mem h2 e (s e List.mem_cons_self)
      have b := ih fun x hx => s x (List.mem_cons_of_mem _ hx)
      omega
  unfold sortable
  simp only [Bool.and_eq_true, Bool.or_eq_true, decide_eq_true_eq, List.all_eq_true]
  exact ⟨⟨⟨n1 es s, n2 es s⟩, fun a ha b hb => h3 a (s a ha) b (s b hb)⟩, h4.imp (fun h a ha => h a (s a ha)) fun h a ha => h a (s a ha)⟩
section
variable {P : Program} {w : World} {A : Around} {E : Value → Shared → Prop} {s : Shared} {a : Addr} {S : Key → Bool} {n : Nat}
theorem sorted_setM {Q : Value → Shared → Prop} (R : SetM w s.heap a S n) (hh : A.handled = none) (hu : A.units + 65 < cLine) (hs : ∀ L : List Key, (∀ k ∈ L, S k = true) → sortable (L.map dK) = true)
    (hQ : ∀ s' p (out : List Value) (c : Nat) (L : List Key), (∀ b o, s.heap.get? b = some o → s'.heap.get? b = some o) → s'.gens = s.gens → s'.os = s.os → s.heap.objs.size ≤ p →
      s'.heap.get? p = some (seqObj "list" out.toArray c) → L.Nodup → (∀ k, k ∈ L ↔ S k = true) → L.length = n → PySem.W.EachIs (fun u d => ∃ k, dK k = d ∧ RelV (kV k) u) out (sortD (L.map dK)) → Q (.ref p) s') :
    wpAny (model P w) A (call (.builtin "sorted") [.ref a]) Q E s := by
  obtain ⟨o, es, ep, t, ho, hex, hd, g, nd, hm, hb, hf, hn, hr, hl⟩ := R
  refine Calls.call_function_entry kind_sorted plain_sorted entry_sorted (args_sorted1 _) ?_
  unfold Builtin.«sorted»
  refine wpAny_bind (m := checkCount "sorted" 1 1 _) (wpAny_pure ?_)
  refine wpAny_bind (collect_set (A := A.in1) hh ⟨o, ho, hex.1, hd⟩ hf hb hr hl fun s1 vs k1 hz g1 o1 pm => ?_)
  have hvl : vs.length = n := by rw [pm.length_eq, List.length_map, Array.length_toList]; exact hn
  have pk : (vs.map mkey).Perm (keysM es.toList) := by
    have q := pm.map mkey
    rw [List.map_map] at q
    exact q
  have hrel : ∀ v ∈ vs, RelV (kV (mkey v)) v := fun v hv => by
    obtain ⟨e, he, q⟩ := List.mem_map.mp (pm.mem_iff.mp hv)
    obtain ⟨k, h1, _⟩ := g e he
    rw [q] at h1
    rw [mkey_of h1]
    exact h1
  have e1 : ∀ (l : List Value), (∀ v ∈ l, RelV (kV (mkey v)) v) → PySem.W.EachIs (fun u d => ∃ k, dK k = d ∧ RelV (kV k) u) l ((l.map mkey).map dK) := by
    intro l
    induction l with
    | nil => intro _; exact .nil
    | cons v l ih => intro h; exact .cons ⟨mkey v, rfl, h v List.mem_cons_self⟩ (ih fun u hu => h u (List.mem_cons_of_mem _ hu))
  have E1 := e1 vs hrel
  have hS : ∀ k ∈ vs.map mkey, S k = true := fun k hk => (hm k).2 (pk.mem_iff.mp hk)
  have hso := hs (vs.map mkey) hS
  obtain ⟨k5, k6⟩ := sortable_toP hso
  obtain ⟨_, _, k3, _⟩ := sortable_iff hso
  refine wpAny_bind (wpAny_newList ?_ (by
    rw [hvl, ← hn, sizeLine_eq]
    have : es.size < scanBound := hb
    unfold scanBound at this
    omega))
  have hoL : (s1.heap.push (seqObj "list" vs.toArray 0)).get? s1.heap.objs.size = some (seqObj "list" vs.toArray 0) := Heap.get?_push_size _ rfl
  have E2 : PySem.W.EachIs (fun v b => ∃ as, Reads (s1.heap.push (seqObj "list" vs.toArray 0)) v (toP b) as ∧ s1.heap.objs.size ∉ as) vs ((vs.map mkey).map dK) := E1.mono fun u d ⟨k, e, r⟩ => by
    subst e
    cases k with
    | inl i => obtain ⟨t, rfl⟩ := (show ∃ t, u = Value.int i t from r); exact ⟨[], by first | exact .int _ _ | constructor, by simp⟩
    | inr x => obtain ⟨t, rfl⟩ := (show ∃ t, u = Value.str x t from r); exact ⟨[], by first | exact .str _ _ | constructor, by simp⟩
  have hlb : ((vs.map mkey).map dK).length ≤ sizeLine := by
    rw [List.length_map, List.length_map, hvl, ← hn, sizeLine_eq]
    have : es.size < scanBound := hb
    unfold scanBound at this
    omega
  refine wpAny_bind (wpAny_holding (PySem.W.list_sort_data (R := fun u d => ∃ k, dK k = d ∧ RelV (kV k) u) (enc := toP) hoL E1 E2 k5 k6 hlb (fun b hb => ?_) fun out hol he => ?_))
  · obtain ⟨k, _, rfl⟩ := List.mem_map.mp hb
    have : (toP (dK k)).depth = 0 := by cases k <;> rfl
    rw [this]
    have : A.in1.units = A.units + 1 := rfl
    omega
  · rw [← sortD_merge k3] at he
    obtain ⟨c, hc⟩ := sortedHeap_at (vs := vs) (out := out.toArray) hoL
    refine wpAny_pure ⟨_, rfl, hQ _ s1.heap.objs.size out c (vs.map mkey) (fun b u e => ?_) g1 o1 hz hc (pk.nodup_iff.mpr nd) (fun k => by rw [pk.mem_iff, ← hm k]) (by rw [List.length_map]; exact hvl) he⟩
    have q := k1 b u e
    have hlt := Heap.lt_size q
    show (sortedHeap (s1.heap.push (seqObj "list" vs.toArray 0)) s1.heap.objs.size vs out.toArray).get? b = some u
    rw [sortedHeap_old (Nat.ne_of_lt hlt) (by rw [size_push']; exact Nat.lt_succ_of_lt hlt)]
    exact Heap.get?_push_of_some _ q
end
section
variable {X : Cx}
theorem each_kv : ∀ {ds : List D} {out : List Value}, PySem.W.EachIs (fun u d => ∃ k, dK k = d ∧ RelV (kV k) u) out ds → ∃ ks : List Key, ks.map dK = ds ∧ Vals (ks.map kV) out
  | _, _, .nil => ⟨[], rfl, .nil⟩
  | _, _, .cons ⟨k, e, r⟩ t => by
    obtain ⟨ks, h1, h2⟩ := each_kv t
    exact ⟨k :: ks, by rw [List.map_cons, e, h1], .cons r h2⟩
/-- sorted(the set at a) -/
def rSortedM (w : World) : List V → Hp → VK → Prop := fun vs H Q => ∃ (a : Addr) (S : Key → Bool) (n : Nat), vs = [V.ref a] ∧ H a = some (SetMO w a S n) ∧ (∀ L : List Key, (∀ k ∈ L, S k = true) → sortable (L.map dK) = true) ∧
  ∀ (L ks : List Key) (p : Addr), L.Nodup → (∀ k, k ∈ L ↔ S k = true) → ks.map dK = sortD (L.map dK) → H p = none → Q (.ref p) (upd H p (.lst (ks.map kV)))
theorem cr_sortedM (hu : X.A.units + 65 < cLine) (hc : X.calm = true) : CallR X (.builtin "sorted") (rSortedM X.w) := by
  intro pins s σ H vs us Q I r h
  obtain ⟨a, S, n, rfl, ha, hs, q⟩ := h
  have R := setMO_get I ha
  rw [Vals.ref1 r]
  have hb : n < scanBound := by
    obtain ⟨o, es, ep, t, ho, hex, hd, g, nd, hm, hb, hf, hn, hr, hl⟩ := R
    rw [← hn]; exact hb
  refine sorted_setM R (I.ok.hd hc) hu hs fun s' p out c L k g o hp hg hL hm hn he => ?_
  obtain ⟨ks, e1, e2⟩ := each_kv he
  have hlen : (ks.map kV).length ≤ sizeLine := by
    have e3 := congrArg List.length e1
    rw [sortD_merge (sortable_iff (hs L fun k hk => (hm k).mp hk)).2.2.1, List.length_mergeSort, List.length_map, List.length_map] at e3
    rw [List.length_map, e3, hn, sizeLine_eq]
    unfold scanBound at hb
    omega
  have hnp : H p = none := I.hok.fresh hp
  have J : L2.Inv X pins σ (upd H p (.lst (ks.map kV))) { s with heap := s'.heap, gens := s'.gens, drawn := s'.drawn, toks := s'.toks } :=
    I.call (ch := []) (Un.laid k hp hnp) (I.hok.laid k hp ⟨hlen, out, c, e2, hg⟩) (by rw [g]; exact I.bare) (fun _ z => nomatch z)
  have e : s' = { s with heap := s'.heap, gens := s'.gens, drawn := s'.drawn, toks := s'.toks } := by
    cases s'
    cases s
    cases o
    rfl
  rw [e]
  exact ⟨.ref p, _, J, rfl, q L ks p hL hm e1 hnp⟩
/-! ### the comprehension -/
def tScM (w : World) (wi : TI) (g : TG) (tt : TT) (te : TE) (vs : List Nat) : TE := fun σ H Q => wi σ H fun J H1 => ∀ D, H1 D = none → ∃ W : Nat → Nat → Hp → Prop, (∃ m, W 0 m (upd H1 D (SetMO w D (fun _ => false) 0))) ∧ ∀ i m H, W i m H →
  (J.stop i H ∧ Q (.ref D) H) ∨ (J.go i H ∧ ∃ Nx : Hp → Prop, (∀ H', Nx H' → ∃ m', m' < m ∧ W (i + 1) m' H') ∧ ∀ x H', J.yld i H x H' → g x (L2.wipe σ vs) H' fun σ2 H2 => L2.wipe σ2 vs = L2.wipe σ vs ∧ tt σ2 H2 fun b H3 =>
    if b = true then te σ2 H3 fun y H4 => ∃ (c : Key) (S : Key → Bool) (n : Nat), y = kV c ∧ H4 D = some (SetMO w D S n) ∧ n + 1 < scanBound ∧ Nx (upd H4 D (SetMO w D (fun j => S j || decide (j = c)) (if S c = true then n else n + 1))) else Nx H3)
theorem pe_scM {elt tg iter : Expr} {ifs : List Expr} {scope : Scope} {own : List (PySem.Str × Nat)} {pos : Pos} {wi : TI} {g : TG} {tt : TT} {te : TE} (hc : X.calm = true) (hN : X.N.Nodup) (hi : PI X tg iter wi) (ok : BlkOk X.N X.env.scope scope own)
    (hg : ∀ (s : Shared) (H : Hp) (C : Addr) (cl : List (PySem.Str × Addr)) (fp : List Addr), PG (X.blk s H scope (compEnvC scope cl C X.env) fp) tg g) (ht : ∀ (s : Shared) (H : Hp) (C : Addr) (cl : List (PySem.Str × Addr)) (fp : List Addr), PTs (X.blk s H scope (compEnvC scope cl C X.env) fp) ifs tt)
    (he : ∀ (s : Shared) (H : Hp) (C : Addr) (cl : List (PySem.Str × Addr)) (fp : List Addr), PE (X.blk s H scope (compEnvC scope cl C X.env) fp) elt te) (hs : ∀ x, foldedSetIterable iter X.env x = pure x) :
    PE X (.SetComp elt [⟨tg, iter, ifs, 0⟩] scope pos) (tScM X.w wi g tt te (own.map (·.2))) := by
  refine ⟨fun pins s σ H Q I h => ?_⟩
  rw [PpSet.eval_SetComp]
  have hfree : ∀ y ∈ scope.names, y.2 = .free → ∃ c, X.env.cells.lookup y.1 = some c := fun y hy e => by
    rcases ok.free y hy e with k | k
    · exact I.ok.has _ (.inl k)
    · exact I.ok.has _ (.inr k)
  refine wpAny_comprehension_free (use := none) rfl hs (closure_ok hfree) ok.kind (fun y hy e => by rw [ok.uniq y hy, e])
    (thn (hi.run pins s σ H _ I h) fun xv s1 hx => thn hx fun itv s2 h2 => ?_)
  obtain ⟨it, fp, tn, J, H2, e, I2, T, st2, f2, q⟩ := h2
  subst e
  refine PpSet.newSet_ok (newEnv_comp ?_)
  generalize hD : s2.heap.objs.size = D
  have hDn : H2 D = none := I2.hok.fresh (Nat.le_of_eq hD)
  obtain ⟨W, ⟨m0, w0⟩, turn⟩ := q D hDn
  generalize hs3 : ({ s2 with heap := s2.heap.push { cls := .type "set", dict := none, data := .set #[] 0 (.fresh 0 0 (!X.w.params.followText "set-order")) } } : Shared) = s3
  have I3 : L2.Inv X pins σ (upd H2 D (SetMO X.w D (fun _ => false) 0)) s3 := by
    rw [← hs3]
    refine I2.laid (t' := s2.toks) (fun b o e => Heap.get?_push_of_some _ e) (Nat.le_of_eq hD) ?_
    rw [← hD]
    exact setMO_new (setM_fresh X.w)
  have h3 : s3.heap = s2.heap.push { cls := .type "set", dict := none, data := .set #[] 0 (.fresh 0 0 (!X.w.params.followText "set-order")) } := by rw [← hs3]
  have sz : ∀ b ∈ fp, b < s2.heap.objs.size := fun b hb => by
    obtain ⟨o, e, _⟩ := T.obj _ _ st2 b hb
    exact Heap.lt_size e
  have f3 : ∀ b ∈ fp, FpOk X pins (upd H2 D (SetMO X.w D (fun _ => false) 0)) b ∧ b < s3.heap.objs.size := fun b hb => by
    have hlt := sz b hb
    refine ⟨⟨?_, (f2 b hb).2⟩, by rw [h3, Heap.size_push]; exact Nat.lt_succ_of_lt hlt⟩
    rw [upd_ne (by rw [← hD]; exact Nat.ne_of_lt hlt)]
    exact (f2 b hb).1
  have st3 : tn 0 s3.heap := T.keep _ _ _ st2 fun b _ o e => by rw [h3]; exact Heap.get?_push_of_some _ e
  have I4 := block_start I3 ok hN f3
  have pg := hg s3 (upd H2 D (SetMO X.w D (fun _ => false) 0)) s3.heap.objs.size (cellsFrom (s3.heap.objs.size + 1) scope.names (cloFrom X.env.cells scope.names [])) fp
  have pt := ht s3 (upd H2 D (SetMO X.w D (fun _ => false) 0)) s3.heap.objs.size (cellsFrom (s3.heap.objs.size + 1) scope.names (cloFrom X.env.cells scope.names [])) fp
  have pe := he s3 (upd H2 D (SetMO X.w D (fun _ => false) 0)) s3.heap.objs.size (cellsFrom (s3.heap.objs.size + 1) scope.names (cloFrom X.env.cells scope.names [])) fp
  show codeAny _ _ (.compStart (.SetComp elt [⟨tg, iter, ifs, 0⟩] scope pos) 0 (.ref it) (.ref D) (compEnvC scope (cellsFrom (s3.heap.objs.size + 1) scope.names (cloFrom X.env.cells scope.names [])) s3.heap.objs.size X.env)) (compPost (model X.prog X.w) X.A X.xe none _ (.ref D) s3.heap.objs.size) { s3 with heap := pushCells (s3.heap.push { cls := .type "dict", data := .dict #[] }) scope.names }
  have nfp : ∀ b ∈ fp, (upd H2 D (SetMO X.w D (fun _ => false) 0)) b = none := fun b hb => (f3 b hb).1.1
  generalize hce : compEnvC scope (cellsFrom (s3.heap.objs.size + 1) scope.names (cloFrom X.env.cells scope.names [])) s3.heap.objs.size X.env = ce at I4 pg pt pe ⊢
  have cL : ce.locals = s3.heap.objs.size := by subst hce; rfl
  generalize hH3 : upd H2 D (SetMO X.w D (fun _ => false) 0) = H3 at I3 I4 pg pt pe w0 nfp f3
  generalize hs4 : ({ s3 with heap := pushCells (s3.heap.push { cls := .type "dict", data := .dict #[] }) scope.names } : Shared) = s4 at I4 ⊢
  have st4 : tn 0 s4.heap := T.keep _ _ _ st3 fun b _ o e => by rw [← hs4]; exact pushCells_keeps _ _ _ _ (Heap.get?_push_of_some _ e)
  have stat : ∀ {σ' : L2.St} {H' : Hp} {s' : Shared}, L2.Inv (X.blk s3 H3 scope ce fp) [] σ' H' s' → (∀ b ∈ fp, H' b = none) → ∀ b ∈ fp, FpOk (X.blk s3 H3 scope ce fp) [] H' b := fun {σ' H' s'} I' hn b hb =>
    ⟨hn b hb, (I'.ok.exf b hb).1, I'.ok.exfs b hb, .inl hb, fun x c e => (I'.ok.exf b hb).2 x c e, fun p hp => absurd (show p ∈ ([] : List (Addr × Obj)) ++ [] from hp) (by simp)⟩
  have loop : codeAny (model X.prog X.w) X.A (.compLoop (.SetComp elt [⟨tg, iter, ifs, 0⟩] scope pos) 0 (.ref it) (.ref D) ce) (compPost (model X.prog X.w) X.A X.xe none (fun v s' => ∃ vv H', L2.Inv X pins σ H' s' ∧ RelV vv v ∧ Q vv H') (.ref D) s3.heap.objs.size) s4 := by
    refine PpSet.compLoopS_any (fun n s' => ∃ i H', L2.Inv (X.blk s3 H3 scope ce fp) [] (L2.wipe σ (own.map (·.2))) H' s' ∧ tn i s'.heap ∧ (∀ b ∈ fp, H' b = none) ∧ W i n H') ?_ m0 ⟨0, H3, I4, st4, nfp, w0⟩
    rintro n s5 ⟨i, H5, I5, st5, n5, w5⟩
    rcases turn i n H5 w5 with ⟨stop, qq⟩ | ⟨go, Nx, hNx, step⟩
    · have td := T.done (X.blk s3 H3 scope ce fp) rfl rfl rfl hc i [] s5 _ H5 (fun _ _ => False) I5 (stat I5 n5) st5 stop
      refine thnF td fun r s6 ⟨hr, I6⟩ => ?_
      subst hr
      have I7 : L2.Inv X pins σ H5 s6 := I3.call' (ch := fp) I6.os I6.base I6.hok I6.bare fun b hb => ⟨(f3 b hb).1.2.2.2.1, (f3 b hb).1.2.1, (f3 b hb).1.2.2.2.2.1, (f3 b hb).1.2.2.2.2.2⟩
      have nC : H5 s3.heap.objs.size = none := by
        have z : H5 ce.locals = none := I6.free
        rw [cL] at z
        exact z
      obtain ⟨m, hn, _⟩ := I6.loc
      have hn : s6.heap.Ns ce.locals m := hn
      rw [cL] at hn
      refine ⟨m, hn, fun h'' sb => ?_⟩
      obtain ⟨f0, f1, f2, f3, f4, f5⟩ := I3.fpOk (Nat.le_refl _) nC
      exact ⟨.ref D, H5, I7.turned (t' := s6.toks) (fun b o hb e => (sb.2 b hb).trans e) f0 f1 f3 f4 f5, rfl, qq⟩
    · have ti := T.item (X.blk s3 H3 scope ce fp) rfl rfl rfl hc i [] s5 _ H5 (fun _ _ => False) I5 (stat I5 n5) st5 go
      refine thnF ti fun r s6 ⟨u, hr, h6⟩ => ?_
      subst hr
      refine thnF h6 fun _ s7 ⟨x, H7, I7, r7, y7, st7, n7⟩ => ?_
      have I7' := I7.pinned (stat I7 n7) (T.obj _ _ st7)
      refine thnF (pg.run _ s7 _ H7 x u _ I7' r7 (step x H7 y7)) fun _ s8 ⟨σ8, H8, I8, hw8, q8⟩ => ?_
      refine thnF (pt.run _ s8 σ8 H8 _ I8 q8) fun b s9 ⟨H9, I9, q9⟩ => ?_
      have fin : ∀ {s' : Shared} {H' : Hp}, L2.Inv (X.blk s3 H3 scope ce fp) ([] ++ pinsAt fp s7.heap) σ8 H' s' → Nx H' → ∃ m, m < n ∧ ∃ i H', L2.Inv (X.blk s3 H3 scope ce fp) [] (L2.wipe σ (own.map (·.2))) H' s' ∧ tn i s'.heap ∧ (∀ b ∈ fp, H' b = none) ∧ W i m H' := fun {s' H'} I' nx => by
        obtain ⟨m', hm, w'⟩ := hNx H' nx
        have pin' : ∀ b ∈ fp, ∀ o, s7.heap.get? b = some o → s'.heap.get? b = some o ∧ H' b = none := fun b hb o e =>
          let z := I'.pin (b, o) (List.mem_append_right _ (List.mem_append_right _ (mem_pinsAt hb e)))
          ⟨z.1, z.2.1⟩
        have hl : (L2.wipe σ (own.map (·.2))).length = σ8.length := by rw [← hw8, L2.wipe_length]
        refine ⟨m', hm, i + 1, H', (I'.unpinned (pins := [])).weak hl (fun j v e => ?_), T.keep _ _ _ st7 fun b hb o e => (pin' b hb o e).1, fun b hb => ?_, w'⟩
        · rw [← hw8] at e
          exact (wipe_some e).1
        · obtain ⟨o, e, _⟩ := T.obj _ _ st7 b hb
          exact (pin' b hb o e).2
      cases b with
      | false =>
        simp only [Bool.false_eq_true, if_false] at q9 ⊢
        exact fin I9 q9
      | true =>
        simp only [if_true] at q9 ⊢
        refine thnF (pe.run _ s9 σ8 H9 _ I9 q9) fun z s10 ⟨yv, H10, I10, r10, cb, S0, n0, ey, hD10, hz10, nx⟩ => ?_
        subst ey
        exact addM_ok (X := X.blk s3 H3 scope ce fp) I10 r10 hD10 hz10 fun s11 I11 => fin I11 nx
  exact PpSet.codeAny_compStart_set loop (T.self X.A 0 _ _ _ st4 loop)
end
end Gw

set_option Elab.async false
set_option linter.all false
set_option maxRecDepth 100000
set_option maxHeartbeats 2000000
/-! The value layer: sorted(set comprehension), the reading. -/
namespace Gw
open PySem L2
/-- the readings where the foreign objects may change from turn to turn -/
def gDx (K : PySem.W.Frag) (tabs : List Addr) (t : T) : TG := fun v σ H Q => ∃ B : Bs, B.tabs = tabs ∧ gD K B t v σ H Q
def tCx (K : PySem.W.Frag) (tabs : List Addr) (G : Glo) (c : E) : TT := fun σ H Q => ∃ B : Bs, B.tabs = tabs ∧ tCnd K B G c σ H Q
def tEx (K : PySem.W.Frag) (tabs : List Addr) (F : Env → Res (Rv × Env)) : TE := fun σ H Q => ∃ B : Bs, B.tabs = tabs ∧ tE K B F σ H Q
theorem PG.ex {X : Cx} {tg : Expr} {tabs : List Addr} {t : T} (h : ∀ B : Bs, B.tabs = tabs → PG X tg (gD X.K B t)) : PG X tg (gDx X.K tabs t) :=
  ⟨fun pins s σ H v u Q I r ⟨B, hB, q⟩ => (h B hB).run pins s σ H v u Q I r q⟩
theorem PTs.ex {X : Cx} {ifs : List Expr} {tabs : List Addr} {G : Glo} {c : E} (h : ∀ B : Bs, B.tabs = tabs → PTs X ifs (tCnd X.K B G c)) : PTs X ifs (tCx X.K tabs G c) :=
  ⟨fun pins s σ H Q I ⟨B, hB, q⟩ => (h B hB).run pins s σ H Q I q⟩
theorem PE.ex {X : Cx} {x : Expr} {tabs : List Addr} {F : Env → Res (Rv × Env)} (h : ∀ B : Bs, B.tabs = tabs → PE X x (tE X.K B F)) : PE X x (tEx X.K tabs F) :=
  ⟨fun pins s σ H Q I ⟨B, hB, q⟩ => (h B hB).run pins s σ H Q I q⟩
/-- the set of what has been made so far -/
def setSN (acc : List D) : (Key → Bool) × Nat := acc.foldl (fun p d => match kD d with
  | some k => (fun j => p.1 j || decide (j = k), if p.1 k = true then p.2 else p.2 + 1)
  | none => p) (fun _ => false, 0)
theorem setSN_snoc {acc : List D} {d : D} {k : Key} (h : kD d = some k) : setSN (acc ++ [d]) = (fun j => (setSN acc).1 j || decide (j = k), if (setSN acc).1 k = true then (setSN acc).2 else (setSN acc).2 + 1) := by
  unfold setSN
  rw [List.foldl_append, List.foldl_cons, List.foldl_nil, h]
theorem snoc_ind {P : List D → Prop} (h0 : P []) (h1 : ∀ l d, P l → P (l ++ [d])) (l : List D) : P l := by
  have q : ∀ l : List D, P l.reverse := fun l => by
    induction l with
    | nil => exact h0
    | cons d l ih => rw [List.reverse_cons]; exact h1 _ _ ih
  have := q l.reverse
  rwa [List.reverse_reverse] at this
theorem setSN_len (acc : List D) : (setSN acc).2 ≤ acc.length := by
  refine snoc_ind (P := fun acc => (setSN acc).2 ≤ acc.length) (Nat.le_refl _) (fun l d ih => ?_) acc
  cases h : kD d with
  | none =>
    have : setSN (l ++ [d]) = setSN l := by unfold setSN; rw [List.foldl_append, List.foldl_cons, List.foldl_nil, h]
    rw [this, List.length_append]; omega
  | some k =>
    rw [setSN_snoc h, List.length_append, List.length_singleton]
    simp only
    split <;> omega
theorem setSN_mem (acc : List D) (hk : ∀ d ∈ acc, d.isKey = true) (k : Key) : (setSN acc).1 k = true ↔ dK k ∈ acc := by
  revert hk
  refine snoc_ind (P := fun acc => (∀ d ∈ acc, d.isKey = true) → ((setSN acc).1 k = true ↔ dK k ∈ acc)) (fun _ => by simp [setSN]) (fun l d ih hk => ?_) acc
  obtain ⟨j, hj⟩ := kD_key (hk d (by simp))
  rw [setSN_snoc hj]
  simp only [Bool.or_eq_true, decide_eq_true_eq, List.mem_append, List.mem_singleton]
  rw [ih fun d hd => hk d (by simp [hd])]
  constructor
  · rintro (h | h)
    · exact .inl h
    · subst h; exact .inr (dK_kD hj)
  · rintro (h | h)
    · exact .inl h
    · refine .inr (dK_inj ?_)
      rw [h, dK_kD hj]
theorem loopC_pre {turn : D → Env → Res (List D × Env)} : ∀ {ds acc z : List D} {ρ ρ' : Env}, loopC turn ds acc ρ = .ok (z, ρ') → ∃ r, z = acc ++ r
  | [], acc, z, ρ, ρ', h => by simp only [loopC] at h; cases h; exact ⟨[], by simp⟩
  | d :: ds, acc, z, ρ, ρ', h => by
    simp only [loopC] at h
    obtain ⟨p, _, h⟩ := Res.bind_ok h
    split at h
    · obtain ⟨r, hr⟩ := loopC_pre h
      exact ⟨p.1 ++ r, by rw [hr, List.append_assoc]⟩
    · cases h
theorem runE_srs {G : Glo} (elt : E) (t : T) (it : I) (c : E) (ρ : Env) : runE G (.srs elt t it c) ρ = (runI G it ρ).bind fun s => if wipable s.2.1 t.slots then
      (loopC (turnC (setT t) t.slots (runC G c) (runL G elt)) s.1 [] (wipe s.2.1 t.slots)).bind fun z => if z.1.all D.isKey && decide (z.1.length < 4000) then (Res.of (dSorted z.1)).bind fun ss => (back s.2.2 z.2).bind fun ρ' => .ok (.own (.lst (uniqD ss)), ρ') else .stuck else .stuck := by
  simp only [runE]; rfl
section
variable {gi : GI} {G : Glo} {tabs : List Addr} {N : List Str} {sc ts : Scope} {k : Nat} {X : Cx}
def Bs.setAt (B : Bs) (w : World) (Da : Addr) (acc : List D) : Bs := B.put Da (SetMO w Da (setSN acc).1 (setSN acc).2)
theorem frn_set {w : World} {a : Addr} {S : Key → Bool} {n : Nat} : Frn (SetMO w a S n) := trivial
theorem R.setNext {B : Bs} {ss : List Sl} {vs : List (Option V)} {H : Hp} {Da : Addr} {acc : List D} {d : D} {kk : Key} (r : R X.K (B.setAt X.w Da acc) ss vs H) (h0 : B.H0 Da = none) (hk : kD d = some kk) (ht : ∀ b ∈ B.tabs, b ≠ Da) (hz : ∀ b, B.Z b → b ≠ Da) :
    R X.K (B.setAt X.w Da (acc ++ [d])) ss vs (upd H Da (SetMO X.w Da (fun j => (setSN acc).1 j || decide (j = kk)) (if (setSN acc).1 kk = true then (setSN acc).2 else (setSN acc).2 + 1))) := by
  have hfx : ∀ acc, (B.setAt X.w Da acc).fx Da = some (SetMO X.w Da (setSN acc).1 (setSN acc).2) := fun acc => by simp [Bs.setAt, Bs.put]
  obtain ⟨e, f⟩ := r.fix Da _ (hfx acc)
  refine r.chg (a := Da) rfl rfl rfl rfl h0 (fun b ne => upd_ne ne) (fun o ho => ?_) (fun b o ho => ?_) ht hz
  · rw [e] at ho; cases ho; exact f
  · by_cases hb : b = Da
    · subst hb
      rw [hfx, setSN_snoc hk] at ho
      cases ho
      exact ⟨upd_same, frn_set⟩
    · have h1 : (B.setAt X.w Da acc).fx b = some o := by simpa [Bs.setAt, Bs.put, hb] using ho
      obtain ⟨h2, h3⟩ := r.fix b o h1
      exact ⟨by rw [upd_ne hb]; exact h2, h3⟩
theorem loop_readS {B : Bs} {J : It} {ds : List D} {s : Sl} {v : Option V} {σ vs : List (Option V)} {tt : List Sl} {t : T} {c elt : E} {sl : List Nat} {accF : List D} {ρF ρ0 : Env} {H1 : Hp} {Fin : Hp → Prop} {Da : Addr} (hB : B.tabs = tabs) (h0 : B.H0 Da = none) (hta : ∀ b ∈ B.tabs, b ≠ Da) (hza : ∀ b, B.Z b → b ≠ Da)
    (hT : tt.length = vs.length) (wk : ∀ B', Wk X.K B' J ds s v) (hra : ∀ j ∈ sl, B.ra j = none ∧ j < σ.length) (l0 : ρ0.length = σ.length) (R0 : R X.K (B.setAt X.w Da []) (wipe ρ0 sl ++ tt ++ [s]) (L2.wipe σ sl ++ vs ++ [v]) H1)
    (g2 : loopC (turnC (setT t) sl (runC G c) (runL G elt)) ds [] (wipe ρ0 sl) = .ok (accF, ρF)) (hsl : ∀ j ∈ t.slots, j ∈ sl) (hkey : ∀ d ∈ accF, d.isKey = true) (hsz : accF.length < 4000)
    (hfin : ∀ H5, ρF.length = σ.length → R X.K (B.setAt X.w Da accF) (ρF ++ tt ++ [s]) (σ ++ vs ++ [v]) H5 → Fin H5) :
    ∃ W : Nat → Nat → Hp → Prop, (∃ m, W 0 m H1) ∧ ∀ i m H, W i m H → (J.stop i H ∧ Fin H) ∨ (J.go i H ∧ ∃ Nx : Hp → Prop, (∀ H', Nx H' → ∃ m', m' < m ∧ W (i + 1) m' H') ∧
      ∀ x H', J.yld i H x H' → gDx X.K tabs t x (L2.wipe σ sl) H' fun σ2 H2 => L2.wipe σ2 sl = L2.wipe σ sl ∧ tCx X.K tabs G c σ2 H2 fun b H3 => if b = true then tEx X.K tabs (runE G elt) σ2 H3 fun y H4 => ∃ (c : Key) (S : Key → Bool) (n : Nat), y = kV c ∧ H4 Da = some (SetMO X.w Da S n) ∧ n + 1 < scanBound ∧ Nx (upd H4 Da (SetMO X.w Da (fun j => S j || decide (j = c)) (if S c = true then n else n + 1))) else Nx H3) := by
  have tabs' : ∀ acc, (B.setAt X.w Da acc).tabs = tabs := fun acc => hB
  have hra' : ∀ acc, ∀ j ∈ sl, (B.setAt X.w Da acc).ra j = none := fun acc j hj => (hra j hj).1
  refine ⟨fun i m H => m = ds.length - i ∧ i ≤ ds.length ∧ ∃ (ρi : Env) (acc : List D), ρi.length = σ.length ∧ (∀ j ∈ sl, ρi[j]? = some .no) ∧
      R X.K (B.setAt X.w Da acc) (ρi ++ tt ++ [s]) (L2.wipe σ sl ++ vs ++ [v]) H ∧ loopC (turnC (setT t) sl (runC G c) (runL G elt)) (ds.drop i) acc ρi = .ok (accF, ρF), ⟨ds.length, rfl, Nat.zero_le _, wipe ρ0 sl, [], by simp [wipe_len, l0], fun j hj => wipe_in hj (by have := (hra j hj).2; omega), R0, g2⟩, ?_⟩
  rintro i m H5 ⟨rfl, hi, ρi, acc, li, hno, R5, gl⟩
  have l5 : (ρi ++ tt).length = (L2.wipe σ sl ++ vs).length := by simp [li, L2.wipe_length, hT]
  by_cases hlt2 : i < ds.length
  · right
    obtain ⟨d, hd⟩ : ∃ d, ds[i]? = some d := ⟨ds[i], List.getElem?_eq_getElem hlt2⟩
    have hdr : ds.drop i = d :: ds.drop (i + 1) := by
      rw [List.drop_eq_getElem_cons hlt2]
      rw [List.getElem?_eq_getElem hlt2] at hd
      cases hd; rfl
    rw [hdr] at gl
    simp only [loopC] at gl
    obtain ⟨⟨ys, ρn⟩, g4, gl⟩ := Res.bind_ok gl
    by_cases hz : lineOk (acc.length + ys.length) = true
    · simp only [hz, if_true] at gl
      simp only [turnC] at g4
      obtain ⟨ρ2, g5, g4⟩ := Res.bind_ok g4
      have g5 := Res.of_ok g5
      obtain ⟨⟨b, ρ3⟩, g6, g4⟩ := Res.bind_ok g4
      refine ⟨(wk _).go i _ _ H5 hlt2 l5 R5, fun H' => ∃ (ρi : Env) (acc : List D), ρi.length = σ.length ∧ (∀ j ∈ sl, ρi[j]? = some .no) ∧ R X.K (B.setAt X.w Da acc) (ρi ++ tt ++ [s]) (L2.wipe σ sl ++ vs ++ [v]) H' ∧ loopC (turnC (setT t) sl (runC G c) (runL G elt)) (ds.drop (i + 1)) acc ρi = .ok (accF, ρF), fun H' ⟨ρi', acc', q1, q2, q3, q4⟩ => ⟨ds.length - (i + 1), by omega, rfl, hlt2, ρi', acc', q1, q2, q3, q4⟩, fun x H' y => ?_⟩
      have R6 := (wk _).yld i _ _ H5 x H' d hd l5 R5 y
      refine ⟨_, tabs' acc, ρi, tt ++ [s], vs ++ [v], d, ρ2, by simpa using R6, by simp [li, L2.wipe_length], g5, fun σ2 H2 s1 s2 R7 => ?_⟩
      rw [L2.wipe_length] at s1
      have s3 : ∀ j, j ∉ sl → σ2[j]? = σ[j]? := fun j hj => by rw [s2 j (fun m => hj (hsl j m)), L2.wipe_out hj]
      refine ⟨lwipe_eq s1 s3, ?_⟩
      have l7 : ρ2.length = σ2.length := by have a := R7.len; simp at a; omega
      refine ⟨_, tabs' acc, ρ2, tt ++ [s], vs ++ [v], b, ρ3, R7, l7, g6, fun H3 R8 => ?_⟩
      have l8 : ρ3.length = σ2.length := by have a := R8.len; simp at a; omega
      have fin : ∀ {ρe : Env} {acc' : List D} {He : Hp}, ρe.length = σ2.length → R X.K (B.setAt X.w Da acc') (ρe ++ tt ++ [s]) (σ2 ++ vs ++ [v]) He → R X.K (B.setAt X.w Da acc') (wipe ρe sl ++ tt ++ [s]) (L2.wipe σ sl ++ vs ++ [v]) He := fun {ρe acc' He} le Re => by
        have q : R X.K (B.setAt X.w Da acc') (ρe ++ (tt ++ [s])) (σ2 ++ (vs ++ [v])) He := by simpa using Re
        have q2 := q.wiped (sl := sl) (σ' := L2.wipe σ sl) le (by rw [L2.wipe_length, s1]) (fun j hj => by rw [L2.wipe_out hj, s3 j hj]) fun j hj => hra' acc' j hj
        simpa using q2
      have R8' : R X.K (B.setAt X.w Da acc) (ρ3 ++ tt ++ [s]) (σ2 ++ vs ++ [v]) H3 := by simpa using R8
      cases b with
      | false =>
        simp only [Bool.false_eq_true, if_false] at g4 ⊢
        cases g4
        rw [List.append_nil] at gl
        exact ⟨wipe ρ3 sl, acc, by rw [wipe_len]; omega, fun j hj => wipe_in hj (by have := (hra j hj).2; omega), fin l8 R8', gl⟩
      | true =>
        simp only [if_true] at g4 ⊢
        obtain ⟨⟨ys', ρ5⟩, g7, g4⟩ := Res.bind_ok g4
        cases g4
        unfold runL at g7
        obtain ⟨⟨re, ρ4⟩, g8, g7⟩ := Res.bind_ok g7
        cases g7
        refine ⟨_, tabs' acc, ρ3, tt ++ [s], vs ++ [v], re, ρ4, by simpa using R8', l8, g8, fun y H4 R9 => ?_⟩
        obtain ⟨q0, q1⟩ := R9.take1
        obtain ⟨rest, hrest⟩ := loopC_pre gl
        have hmem : re.d ∈ accF := by rw [hrest]; simp
        obtain ⟨kk, hkk⟩ := kD_key (hkey _ hmem)
        have ey : y = kV kk := by
          cases hd' : re.d with
          | int i => rw [hd'] at q1 hkk; cases hkk; exact q1.intV
          | str l => rw [hd'] at q1 hkk; cases hkk; exact q1.strV
          | _ => rw [hd'] at hkk; cases hkk
        obtain ⟨e4, _⟩ := q0.fix Da (SetMO X.w Da (setSN acc).1 (setSN acc).2) (by simp [Bs.setAt, Bs.put])
        refine ⟨kk, _, _, ey, e4, ?_, ?_⟩
        · have a1 := setSN_len acc
          have a2 := congrArg List.length hrest
          simp at a2
          unfold scanBound
          omega
        · have R10 := q0.setNext h0 hkk hta hza
          have l9 : ρ4.length = σ2.length := by have a := R10.len; simp at a; omega
          exact ⟨wipe ρ4 sl, acc ++ [re.d], by rw [wipe_len]; omega, fun j hj => wipe_in hj (by have := (hra j hj).2; omega), fin l9 (by simpa using R10), gl⟩
    · simp only [hz] at gl; cases gl
  · left
    have e : i = ds.length := by omega
    subst e
    rw [List.drop_length] at gl
    simp only [loopC] at gl
    cases gl
    refine ⟨(wk _).stop _ _ H5 l5 R5, ?_⟩
    have R6 : R X.K (B.setAt X.w Da accF) (ρF ++ tt ++ [s]) (σ ++ vs ++ [v]) H5 := by
      refine R5.unwipe (by simp [L2.wipe_length]) fun j => ?_
      by_cases hj : j ∈ sl
      · right
        exact getL (getL (hno j hj))
      · left
        simp only [List.append_assoc]
        by_cases hz : j < σ.length
        · rw [List.getElem?_append_left hz, List.getElem?_append_left (by rw [L2.wipe_length]; exact hz), L2.wipe_out hj]
        · rw [List.getElem?_append_right (l₁ := σ) (by omega), List.getElem?_append_right (l₁ := L2.wipe σ sl) (by rw [L2.wipe_length]; omega), L2.wipe_length]
    exact hfin H5 li R6
theorem dSorted_iff {l ss : List D} (h : dSorted l = some ss) : sortable l = true ∧ ss = sortD l := by
  unfold dSorted at h
  split at h
  · cases h; exact ⟨by assumption, rfl⟩
  · cases h
theorem srs_read {elt : E} {t : T} {it : I} {c : E} {B : Bs} {σ : L2.St} {H : Hp} {Q : VK} (hB : B.tabs = tabs) (h : tE X.K B (runE G (.srs elt t it c)) σ H Q) :
    tScM X.w (iD X.K B (runI G it)) (gDx X.K tabs t) (tCx X.K tabs G c) (tEx X.K tabs (runE G elt)) t.slots σ H fun y H1 => rSortedM X.w [y] H1 Q := by
  obtain ⟨ρ, tt, vs, r, ρ', hR, hl, hF, hQ⟩ := h
  rw [runE_srs] at hF
  obtain ⟨⟨ds, ρ1, mv⟩, g1, hF⟩ := Res.bind_ok hF
  by_cases hw : wipable ρ1 t.slots = true
  · simp only [hw, if_true] at hF
    obtain ⟨⟨accF, ρF⟩, g2, hF⟩ := Res.bind_ok hF
    by_cases hkz : (accF.all D.isKey && decide (accF.length < 4000)) = true
    · simp only [hkz, if_true] at hF
      obtain ⟨ss, g4, hF⟩ := Res.bind_ok hF
      obtain ⟨hso, rfl⟩ := dSorted_iff (Res.of_ok g4)
      obtain ⟨ρb, g3, hF⟩ := Res.bind_ok hF
      cases hF
      rw [Bool.and_eq_true, decide_eq_true_eq, List.all_eq_true] at hkz
      refine ⟨ρ, tt, vs, ds, ρ1, mv, hR, hl, g1, fun J H1 s v hH R1 wk Da hD => ?_⟩
      have hlt : tt.length = vs.length := by have a := hR.len; simp at a; omega
      have l1 : ρ1.length = σ.length := by have a := hR.len; have b := R1.len; simp at a b; omega
      have R1a : R X.K B (ρ1 ++ (tt ++ [s])) (σ ++ (vs ++ [v])) H1 := by simpa using R1
      have hra := wipable_ra R1a hw
      have R2 : R X.K B (wipe ρ1 t.slots ++ (tt ++ [s])) (L2.wipe σ t.slots ++ (vs ++ [v])) H1 := R1a.wiped l1 (L2.wipe_length _ _) (fun j hj => L2.wipe_out hj) fun j hj => (hra j hj).1
      have R3 := R2.putNew hD (o := SetMO X.w Da (fun _ => false) 0) trivial
      have R4 : R X.K (B.setAt X.w Da []) (wipe ρ1 t.slots ++ tt ++ [s]) (L2.wipe σ t.slots ++ vs ++ [v]) (upd H1 Da (SetMO X.w Da (fun _ => false) 0)) := by
        rw [List.append_assoc, List.append_assoc]; exact R3
      have hta : ∀ b ∈ B.tabs, b ≠ Da := fun b hb e => by
        obtain ⟨ps, q, _⟩ := R1.tab b hb
        rw [e, hD] at q; cases q
      have hza : ∀ b, B.Z b → b ≠ Da := fun b hb e => by
        obtain ⟨o, q, _⟩ := R1.zed b hb
        rw [e, hD] at q; cases q
      refine loop_readS (B := B) hB (R1.new0 hD) hta hza hlt wk (fun j hj => ⟨(hra j hj).1, by have := (hra j hj).2; omega⟩) l1 R4 g2 (fun _ h => h) hkz.1 hkz.2 fun H5 l5 R5 => ?_
      have R8 := R5.home hH g3 l5
      obtain ⟨e5, _⟩ := R8.fix Da (SetMO X.w Da (setSN accF).1 (setSN accF).2) (by simp [Bs.setAt, Bs.put])
      have kall : Kall accF := ⟨hkz.1, (sortable_iff hso).2.2.1⟩
      refine ⟨Da, _, _, rfl, e5, fun L hL => sortable_sub hso fun x hx => ?_, fun L ks p hL hm hks hp => ?_⟩
      · obtain ⟨k, hk, rfl⟩ := List.mem_map.mp hx
        exact (setSN_mem accF hkz.1 k).mp (hL k hk)
      · have e6 : ks.map dK = uniqD (sortD accF) := by
          rw [hks]
          refine sort_set kall (nodup_map dK_inj hL) fun x => ?_
          constructor
          · intro hx
            obtain ⟨k, hk, rfl⟩ := List.mem_map.mp hx
            exact (setSN_mem accF hkz.1 k).mp ((hm k).mp hk)
          · intro hx
            obtain ⟨k, hk⟩ := kD_key (hkz.1 x hx)
            have e7 := dK_kD hk
            refine List.mem_map.mpr ⟨k, (hm k).mpr ((setSN_mem accF hkz.1 k).mpr (by rw [e7]; exact hx)), e7⟩
        have rk : ∀ (M : Addr → Prop) (H : Hp) (ks : List Key), RpA X.K M H (ks.map kV) (ks.map dK) := fun M H ks => by
          induction ks with
          | nil => exact .nil
          | cons k ks ih => exact .cons (kV_rp k) ih
        have R9 := R8.fxOff (fx := B.fx) fun b o hb => by
          by_cases e : b = Da
          · subst e
            obtain ⟨q, _⟩ := R1.fix b o hb
            rw [hD] at q; cases q
          · simpa [Bs.setAt, Bs.put, e] using hb
        have R10 : R X.K B (ρ' ++ tt) (σ ++ vs) H5 := R9
        refine hQ _ _ ?_
        have R11 := R10.push_own (d := .lst (uniqD (sortD accF))) (H' := upd H5 p (.lst (ks.map kV))) hp (Grow.new hp) ⟨ks.map kV, upd_same, by rw [← e6]; exact rk _ _ ks⟩
        exact R11
    · simp only [hkz] at hF; cases hF
  · simp only [hw] at hF; cases hF
where nodup_map {f : Key → D} (hf : ∀ {a b : Key}, f a = f b → a = b) : ∀ {l : List Key}, l.Nodup → (l.map f).Nodup
  | [], _ => List.nodup_nil
  | a :: l, h => by
    obtain ⟨h1, h2⟩ := List.nodup_cons.mp h
    refine List.nodup_cons.mpr ⟨fun z => ?_, nodup_map hf h2⟩
    obtain ⟨b, hb, e⟩ := List.mem_map.mp z
    exact h1 (hf e ▸ hb)
theorem blt_sorted : (("sorted" : String) : Str) ∈ bltNames := by decide +kernel
theorem snd_srs (o : XOk gi G tabs N sc ts k X) {elt c : E} {t : T} {it : I} {x : Expr} (h : okE gi N sc (.srs elt t it c) x = true) (ihi : IHI gi G tabs N it) (ihc : IH gi G tabs N c) (ihe : IH gi G tabs N elt) : SE tabs X x (runE G (.srs elt t it c)) := fun B hB => by
  simp only [okE] at h
  split at h
  · rename_i f y e
    obtain ⟨p, pos, rfl⟩ := asCall_some e
    simp only [Bool.and_eq_true, decide_eq_true_eq] at h
    obtain ⟨⟨rfl, h0⟩, h⟩ := h
    cases e2 : asSC y with
    | none => rw [e2] at h; cases h
    | some z =>
      rw [e2] at h
      simp only [Bool.and_eq_true] at h
      obtain ⟨pos2, rfl⟩ := asSC_some e2
      obtain ⟨⟨⟨⟨h1, h2⟩, h3⟩, h4⟩, h5⟩ := h
      have ob := fun s H C cl fp => o.blk z.scope s H C cl fp
      have q := pe_scM (X := X) (pos := pos2) (own := ownOf N t.slots) (tg := z.tg) (elt := z.elt) (te := tEx X.K tabs (runE G elt)) (tt := tCx X.K tabs G c) (g := gDx X.K tabs t) o.calm (by rw [o.hN]; exact o.nd) (ihi o z.tg z.iter h2 B hB) (by rw [o.hN, o.sc]; exact blkOk_by h1) (fun s H C cl fp => PG.ex fun B' hB' => pg_ok (ob s H C cl fp) B' t z.tg h3) (fun s H C cl fp => PTs.ex fun B' hB' => snd_ifs h4 (ihc.st (ob s H C cl fp)) B' hB') (fun s H C cl fp => PE.ex fun B' hB' => ihe.se (ob s H C cl fp) z.elt h5 B' hB') (notsetI (okI_set h2) _)
      rw [own_slots] at q
      obtain ⟨n1, n2⟩ := bltN blt_sorted
      have bs : bootBuiltins (("sorted" : String) : Str) = some (.builtin "sorted") := by first | exact biB .sorted (by decide) | rfl
      refine (pe_callB (cr_sortedM o.hu o.calm) (o.gl h0) (o.blt _ blt_sorted) bs (pa_cons q pa_nil) n1 n2 (star_of rfl) rfl).imp fun σ H Q hq => ?_
      exact srs_read hB hq
  · cases h
end
end Gw

set_option Elab.async false
set_option linter.all false
set_option maxRecDepth 100000
set_option maxHeartbeats 2000000
/-! The value layer: generator expressions, eaten at once. -/
namespace Gw
open PySem PySem.Spec PyProof.Rows L2
section
variable {X : Cx} {pins : List (Addr × Obj)} {σ : L2.St} {H : Hp} {s : Shared}
/-- the generator's own frame -/
abbrev genX (X : Cx) (Ag : Around) (s : Shared) (H : Hp) (cenv : PySem.Env) (fp : List Addr) (pn : List (Addr × Obj)) : Cx :=
  { X with A := Ag, s_0 := s, H_0 := H, env := cenv, outer := X.stack, stack := cenv :: X.stack, ex := fp, fn := fun _ => false, pn := pn, xe := fun _ _ => False }
theorem gen_start {scope : Scope} {own : List (Str × Nat)} {fp : List Addr} {Ag : Around} {code : Value} {h5 : Heap} {g5 : Array GenState} {d5 : Drawn} {t5 : Nat} {m : Str → Option Value} {a : Addr} {go : Obj} (I : L2.Inv X pins σ H s) (ok : BlkOk X.N X.env.scope scope own) (nc : ∀ y ∈ scope.names, y.2 ≠ .cell) (hN : X.N.Nodup) (hfp : ∀ b ∈ fp, FpOk X pins H b ∧ b < s.heap.objs.size)
    (hAh : Ag.handled = none) (hAf : Ag.frames = some (genEnv scope (cloFrom X.env.cells scope.names []) s.heap.objs.size code builtinsNs X.env :: X.stack)) (kp : ∀ b o, s.heap.get? b = some o → h5.get? b = some o) (hns : h5.Ns s.heap.objs.size m)
    (ha : s.heap.objs.size < a) (hgo : h5.get? a = some go) (hgd : ∀ v, go.data ≠ .cell v) (hg : AllBare g5) :
    L2.Inv (genX X Ag s H (genEnv scope (cloFrom X.env.cells scope.names []) s.heap.objs.size code builtinsNs X.env) fp [(a, go)]) [] (L2.wipe σ (own.map (·.2))) H { s with heap := h5, gens := g5, drawn := d5, toks := t5 } := by
  have hfree : ∀ y ∈ scope.names, y.2 = .free → ∃ c, X.env.cells.lookup y.1 = some c := fun y hy e => by
    rcases ok.free y hy e with k | k
    · exact I.ok.has _ (.inl k)
    · exact I.ok.has _ (.inr k)
  generalize hcenv : genEnv scope (cloFrom X.env.cells scope.names []) s.heap.objs.size code builtinsNs X.env = cenv at hAf ⊢
  have hL : cenv.locals = s.heap.objs.size := by rw [← hcenv]; rfl
  have hcl : cenv.cells = cloFrom X.env.cells scope.names [] := by rw [← hcenv]; rfl
  have hsc : cenv.scope = scope := by rw [← hcenv]; rfl
  have mem : ∀ {y c}, cenv.cells.lookup y = some c → X.env.cells.lookup y = some c ∧ c < s.heap.objs.size := fun {y c} e => by
    rw [hcl] at e
    rcases cloFrom_mem (PySem.mem_of_lookup e) with hm | ⟨h1, rfl⟩
    · cases hm
    · obtain ⟨c, hc⟩ := hfree _ h1 rfl
      rw [hc]
      obtain ⟨w, z⟩ := I.cell _ _ hc
      exact ⟨rfl, z.lt⟩
  have look : ∀ {y}, scope.names.lookup y = some .free → ∃ c, cenv.cells.lookup y = some c ∧ X.env.cells.lookup y = some c := fun {y} hl => by
    have hy : (y, NameKind.free) ∈ scope.names := PySem.mem_of_lookup hl
    obtain ⟨c', e'⟩ := mem_lookup (cloFrom_has (cells := X.env.cells) (acc := []) hy)
    rw [← hcl] at e'
    exact ⟨c', e', (mem e').1⟩
  have okB : (genX X Ag s H cenv fp [(a, go)]).Ok := by
    refine ⟨I.ok.mod, ?_, ?_, ?_, ?_, fun y z c e1 e2 => I.ok.inj y z c (mem e1).1 (mem e2).1, fun y hy => ?_, fun y c z e => (by cases z), fun _ => hAh, hAf, .inr ⟨rfl, ?_⟩, fun b hb => ⟨?_, fun y c e z => ?_⟩, I.bs, Nat.le_trans I.ok.bsz I.sz, fun b o e hb => ?_, fun b hb z => ?_, I.stack, I.stkFree⟩
    · show cenv.scope.kind = _
      rw [hsc]; exact ok.kind
    · show cenv.globals = _
      rw [← hcenv]; exact I.ok.glob
    · show cenv.builtins = _
      rw [← hcenv]; rfl
    · show s.heap.objs.size ≤ cenv.locals
      rw [hL]; exact Nat.le_refl _
    · show ∃ c, cenv.cells.lookup y = some c
      have hy : cenv.scope.names.lookup y = some .cell ∨ cenv.scope.names.lookup y = some .free := hy
      rw [hsc] at hy
      rcases hy with hy | hy
      · exact absurd rfl (nc _ (PySem.mem_of_lookup hy))
      · obtain ⟨c, h1, _⟩ := look hy
        exact ⟨c, h1⟩
    · rw [← hcenv]; rfl
    · show b ≠ cenv.locals
      rw [hL]; exact Nat.ne_of_lt (hfp b hb).2
    · exact (hfp b hb).1.2.2.2.2.1 y c (mem e).1 z
    · rcases (hfp b hb).1.2.2.2.1 with z | z
      · exact I.ok.noex b o e z
      · exact absurd (Nat.lt_of_lt_of_le (Heap.lt_size e) (Nat.le_trans I.ok.bsz z)) (Nat.lt_irrefl _)
    · rcases List.mem_cons.mp (I.stkSub b z) with z | z
      · exact (hfp b hb).1.2.1 z
      · exact (hfp b hb).1.2.2.1 z
  refine ⟨okB, rfl, hg, Un.kept kp, ⟨m, ?_, fun i y av e1 e2 e3 => ?_⟩, fun y c e => ?_, ?_, fun y c e => I.freeC y c (mem e).1, fun p hp => ?_, I.hok.kept kp, by rw [L2.wipe_length]; exact I.len⟩
  · show Heap.Ns _ cenv.locals _
    rw [hL]; exact hns
  · obtain ⟨e2, hne⟩ := wipe_some e2
    have hfr : scope.names.lookup y = some .free := by
      have e3 : Vis cenv.scope y := e3
      rw [hsc] at e3
      have no : ∀ k, scope.names.lookup y = some k → ¬ (k = .local ∨ k = .cell) := fun k e hh => by
        rcases ok.own _ (PySem.mem_of_lookup e) hh with e' | e'
        · obtain ⟨p, hp, hpy⟩ := List.mem_map.mp e'
          have e3 := ok.ix p hp
          have : p.1 = y := hpy
          rw [this] at e3
          exact hne (List.mem_map.mpr ⟨p, hp, nodup_ix hN e3 e1⟩)
        · exact e' (List.mem_of_getElem? e1)
      rcases e3 with e3 | e3 | e3
      · exact absurd (.inl rfl) (no _ e3)
      · exact absurd (.inr rfl) (no _ e3)
      · exact e3
    obtain ⟨m, hn, hl⟩ := I.loc
    have hvis : Vis X.env.scope y := (ok.free _ (PySem.mem_of_lookup hfr) rfl).elim (fun k => .inr (.inl k)) (fun k => .inr (.inr k))
    obtain ⟨w, r, q⟩ := hl i y av e1 e2 hvis
    refine ⟨w, r, .inr ⟨.inr ?_, ?_⟩⟩
    · show cenv.scope.names.lookup y = _
      rw [hsc]; exact hfr
    obtain ⟨c, h1, h2⟩ := look hfr
    rcases q with ⟨k, _⟩ | ⟨_, c', e', z⟩
    · have k : X.env.scope.names.lookup y = some .local := k
      rcases ok.free _ (PySem.mem_of_lookup hfr) rfl with k' | k' <;> rw [show X.env.scope.names.lookup y = _ from k'] at k <;> cases k
    · rw [h2] at e'; cases e'
      exact ⟨c, h1, z.keeps kp⟩
  · obtain ⟨w, z⟩ := I.cell y c (mem e).1
    exact ⟨w, z.keeps kp⟩
  · show H cenv.locals = none
    rw [hL]; exact I.hok.fresh (Nat.le_refl _)
  · have hp : p = (a, go) := by
      have : p ∈ [(a, go)] ++ ([] : List (Addr × Obj)) := hp
      simpa using this
    subst hp
    refine ⟨hgo, I.hok.fresh (Nat.le_of_lt ha), ?_, ?_, hgd⟩
    · show a ≠ cenv.locals
      rw [hL]; exact Nat.ne_of_gt ha
    · intro z
      obtain ⟨_, o, ho, _⟩ := I.stack.mem z
      exact absurd (Nat.lt_trans (Heap.lt_size ho) ha) (Nat.lt_irrefl _)
end
end Gw

set_option Elab.async false
set_option linter.all false
set_option maxRecDepth 100000
set_option maxHeartbeats 2000000
/-! The value layer: a generator expression's own loop. -/
namespace Gw
open PySem PySem.Spec PyProof.Rows L2
/-- nothing but the table of generators and the tokens may have changed -/
structure SameH (s s' : Shared) : Prop where
  heap : s'.heap = s.heap
  os : s'.os = s.os
  bare : AllBare s'.gens
theorem inv_same {X : Cx} {pins : List (Addr × Obj)} {σ : L2.St} {H : Hp} {s s' : Shared} (I : L2.Inv X pins σ H s) (h : SameH s s') : L2.Inv X pins σ H s' :=
  I.call' (ch := []) h.os (Un.kept fun b u e => by rw [h.heap]; exact e) (by rw [h.heap]; exact I.hok) h.bare fun b hb => by cases hb
structure GJ (X : Cx) (fp : List Addr) (tn : Nat → Heap → Prop) (σ : L2.St) (i : Nat) (H : Hp) (s : Shared) : Prop where
  inv : L2.Inv X [] σ H s
  tn : tn i s.heap
  fp : ∀ b ∈ fp, H b = none
theorem GJ.same {X : Cx} {fp : List Addr} {tn : Nat → Heap → Prop} {σ : L2.St} {i : Nat} {H : Hp} {s s' : Shared} (j : GJ X fp tn σ i H s) (h : SameH s s') : GJ X fp tn σ i H s' :=
  ⟨inv_same j.inv h, by rw [h.heap]; exact j.tn, j.fp⟩
/-- the generator's readings: W at a turn's start, Yd where a value is out, Fin at the end -/
def GTurn (J : It) (g : TG) (tt : TT) (te : TE) (σ : L2.St) (vs : List Nat) (W : Nat → Nat → Hp → Prop) (Yd : Nat → Nat → V → Hp → Prop) (Fin : Hp → Prop) : Prop := ∀ i m H, W i m H →
  (J.stop i H ∧ Fin H) ∨ (J.go i H ∧ 0 < m ∧ ∃ Nx : Hp → Prop, (∀ H', Nx H' → ∃ m', m' < m ∧ W (i + 1) m' H') ∧ ∀ x H', J.yld i H x H' → g x (L2.wipe σ vs) H' fun σ2 H2 => L2.wipe σ2 vs = L2.wipe σ vs ∧ tt σ2 H2 fun b H3 =>
    if b = true then te σ2 H3 fun y H4 => Yd i m y H4 else Nx H3)
section
variable {X : Cx} {fp : List Addr} {it : Addr} {tn : Nat → Heap → Prop} {J : It} {σ : L2.St} {vs : List Nat} {W : Nat → Nat → Hp → Prop} {Yd : Nat → Nat → V → Hp → Prop} {Fin : Hp → Prop}
def gEnd (X : Cx) (σ : L2.St) (Fin : Hp → Prop) : Shared → Prop := fun s => ∃ H, L2.Inv X [] σ H s ∧ Fin H
def gProto (X : Cx) (fp : List Addr) (tn : Nat → Heap → Prop) (σ : L2.St) (W : Nat → Nat → Hp → Prop) (Yd : Nat → Nat → V → Hp → Prop) : Protocol := fun k _ v s kap =>
  ∃ i m H y, m ≤ k + 1 ∧ RelV y v ∧ GJ X fp tn σ (i + 1) H s ∧ Yd i m y H ∧ ∀ s'', SameH s s'' → (∃ m', m' < m ∧ W (i + 1) m' H) → kap (.send .none) s''
theorem gen_loop {A2 : Around} {elt tg iter : Expr} {ifs : List Expr} {scope : Scope} {pos : Pos} {g : TG} {tt : TT} {te : TE}
    (hA : X.A = A2.over (.compLoop (.GeneratorExp elt [⟨tg, iter, ifs, 0⟩] scope pos) 0 (.ref it) .none X.env) []) (hc : X.calm = true) (hco : X.env.scope.isCoroutine = false) (hxe : X.xe = fun _ _ => False) (hex : X.ex = fp) (T : Turn X.prog X.w X.K tg J fp it tn) (hpn : ∀ p ∈ X.pn, p.1 ∉ fp)
    (pg : PG X tg g) (pt : PTs X ifs tt) (pe : PE X elt te) (turn : GTurn J g tt te σ vs W Yd Fin) : ∀ (m i : Nat) (H : Hp) (s : Shared), GJ X fp tn (L2.wipe σ vs) i H s → W i m H → ∀ (n : Nat), m ≤ n → ∀ s₀ : Shared,
      Seg (model X.prog X.w) A2 (fun _ _ r s₁ => r = .ok .next ∧ gEnd X (L2.wipe σ vs) Fin s₁) (gProto X fp tn (L2.wipe σ vs) W Yd) n s₀ (.compLoop (.GeneratorExp elt [⟨tg, iter, ifs, 0⟩] scope pos) 0 (.ref it) .none X.env)
        ((model X.prog X.w).den (.compLoop (.GeneratorExp elt [⟨tg, iter, ifs, 0⟩] scope pos) 0 (.ref it) .none X.env)) [] s := by
  have stat : ∀ {σ' : L2.St} {H' : Hp} {s' : Shared}, L2.Inv X [] σ' H' s' → (∀ b ∈ fp, H' b = none) → ∀ b ∈ fp, FpOk X [] H' b := fun {σ' H' s'} I' hn b hb =>
    ⟨hn b hb, (I'.ok.exf b (by rw [hex]; exact hb)).1, I'.ok.exfs b (by rw [hex]; exact hb), .inl (by rw [hex]; exact hb), fun x c e => (I'.ok.exf b (by rw [hex]; exact hb)).2 x c e, fun p hp z => by
      rw [List.append_nil] at hp
      exact hpn p hp (by rw [z]; exact hb)⟩
  intro m
  induction m using Nat.strongRecOn with
  | ind m ih =>
    intro i H s j w n hn s₀
    show Seg _ A2 _ _ _ s₀ _ ((compTurn (.GeneratorExp elt [⟨tg, iter, ifs, 0⟩] scope pos) 0 (.ref it) .none X.env).onRaise (leaving X.env)) [] s
    rw [compTurn_gen, Sem.onRaise_eq_wrap]
    refine seg_bind_wrap (wpAny_standAt ?_)
    rcases turn i m H w with ⟨stop, fin⟩ | ⟨go, hm, Nx, hNx, step⟩
    · have td := T.done X rfl rfl rfl hc i [] s _ H (fun _ _ => False) j.inv (stat j.inv j.fp) j.tn stop
      rw [hA] at td
      refine seg_bind_wrap (wpAny_mono td (fun r s1 ⟨hr, I1⟩ => ?_) fun _ _ z => z.elim)
      subst hr
      exact seg_end (.ok .next) ⟨rfl, H, I1, fin⟩
    · have ti := T.item X rfl rfl rfl hc i [] s _ H (fun _ _ => False) j.inv (stat j.inv j.fp) j.tn go
      rw [hA] at ti
      refine seg_bind_wrap (wpAny_mono ti (fun r s6 ⟨u, hr, h6⟩ => ?_) fun _ _ z => z.elim)
      subst hr
      refine seg_bind_wrap (wpAny_mono h6 (fun _ s7 ⟨x, H7, I7, r7, y7, st7, n7⟩ => ?_) fun _ _ z => z.elim)
      have I7' := I7.pinned (stat I7 n7) (T.obj _ _ st7)
      have ta := pg.run _ s7 _ H7 x u _ I7' r7 (step x H7 y7)
      rw [hA, hxe] at ta
      refine seg_bind_wrap (wpAny_mono ta (fun _ s8 ⟨σ8, H8, I8, hw8, q8⟩ => ?_) fun _ _ z => z.elim)
      have tb := pt.run _ s8 σ8 H8 _ I8 q8
      rw [hA, hxe] at tb
      refine seg_bind_wrap (wpAny_mono tb (fun b s9 ⟨H9, I9, q9⟩ => ?_) fun _ _ z => z.elim)
      -- the turn's end
      have back : ∀ {s' : Shared} {H' : Hp}, L2.Inv X ([] ++ pinsAt fp s7.heap) σ8 H' s' → GJ X fp tn (L2.wipe σ vs) (i + 1) H' s' := fun {s' H'} I' => by
        have pin' : ∀ b ∈ fp, ∀ o, s7.heap.get? b = some o → s'.heap.get? b = some o ∧ H' b = none := fun b hb o e =>
          let z := I'.pin (b, o) (List.mem_append_right _ (List.mem_append_right _ (mem_pinsAt hb e)))
          ⟨z.1, z.2.1⟩
        have hl : (L2.wipe σ vs).length = σ8.length := by rw [← hw8, L2.wipe_length]
        refine ⟨(I'.unpinned (pins := [])).weak hl (fun j v e => ?_), T.keep _ _ _ st7 fun b hb o e => (pin' b hb o e).1, fun b hb => ?_⟩
        · rw [← hw8] at e
          exact (wipe_some e).1
        · obtain ⟨o, e, _⟩ := T.obj _ _ st7 b hb
          exact (pin' b hb o e).2
      cases b with
      | false =>
        simp only [Bool.false_eq_true, if_false] at q9 ⊢
        obtain ⟨m', hm', w'⟩ := hNx H9 q9
        exact seg_again rfl (ih m' hm' (i + 1) H9 s9 (back I9) w' n (by omega) s₀)
      | true =>
        simp only [if_true] at q9 ⊢
        have hy : ∀ v, yieldOut X.env v = yieldValue v := fun v => by simp only [yieldOut, hco, Bool.false_eq_true, if_false]
        simp only [hy]
        rw [Sem.bind_eq_wrap', Sem.bind_eq_wrap', Sem.wrap_wrap, Sem.wrap_wrap]
        have te' := pe.run _ s9 σ8 H9 _ I9 q9
        rw [hA, hxe] at te'
        obtain ⟨n', rfl⟩ : ∃ n', n = n' + 1 := ⟨n - 1, by omega⟩
        refine seg_wrap (wpAny_mono te' (fun z s10 ⟨yv, H10, I10, r10, yd⟩ => ?_) fun _ _ z => z.elim)
        refine seg_at (seg_yield rfl rfl rfl ⟨i, m, H10, yv, hn, r10, back I10, yd, fun s'' hs ⟨m', hm', w'⟩ => ?_⟩)
        exact seg_again rfl (ih m' hm' (i + 1) H10 s'' ((back I10).same hs) w' n' (by omega) s'')
end
end Gw

set_option Elab.async false
set_option linter.all false
set_option maxRecDepth 100000
set_option maxHeartbeats 2000000
/-! The value layer: what eats a generator expression. -/
namespace Gw
open PySem PySem.Spec PyProof.Rows L2
theorem setGen_bare {s : Shared} {g : Nat} {x : GenState} (h : AllBare s.gens) (hx : x.bare = true) : AllBare (s.setGen g x).gens := fun y hy => by
  simp only [Shared.setGen] at hy
  obtain ⟨i, hi, rfl⟩ := Array.mem_iff_getElem.mp hy
  by_cases e : g = i
  · subst e; simp [hx]
  · have hi' : i < s.gens.size := by simpa using hi
    rw [Array.getElem_setIfInBounds_ne hi' e]
    exact h _ (Array.getElem_mem _)
theorem same_setGen {s : Shared} {g : Nat} {x : GenState} (h : AllBare s.gens) (hx : x.bare = true) : SameH s (s.setGen g x) := ⟨rfl, rfl, setGen_bare h hx⟩
theorem SameH.trans {s s' s'' : Shared} (a : SameH s s') (b : SameH s' s'') : SameH s s'' := ⟨b.heap.trans a.heap, b.os.trans a.os, b.bare⟩
section
variable {X : Cx} {fp : List Addr} {it : Addr} {tn : Nat → Heap → Prop} {J : It} {σ : L2.St} {vs : List Nat} {W : Nat → Nat → Hp → Prop} {Yd : Nat → Nat → V → Hp → Prop} {Fin : Hp → Prop}
theorem gen_begin {A2 : Around} {elt tg iter : Expr} {ifs : List Expr} {scope : Scope} {pos : Pos} {R : GenEnd} {Y : Protocol} {n : Nat} {s₀ s : Shared} {i : Nat} (T : Turn X.prog X.w X.K tg J fp it tn) (hst : tn i s.heap)
    (loop : Seg (model X.prog X.w) A2 R Y n s₀ (.compLoop (.GeneratorExp elt [⟨tg, iter, ifs, 0⟩] scope pos) 0 (.ref it) .none X.env) ((model X.prog X.w).den (.compLoop (.GeneratorExp elt [⟨tg, iter, ifs, 0⟩] scope pos) 0 (.ref it) .none X.env)) [] s) :
    Seg (model X.prog X.w) A2 R Y n s₀ (.compStart (.GeneratorExp elt [⟨tg, iter, ifs, 0⟩] scope pos) 0 (.ref it) .none X.env) ((model X.prog X.w).den (.compStart (.GeneratorExp elt [⟨tg, iter, ifs, 0⟩] scope pos) 0 (.ref it) .none X.env)) [] s := by
  show Seg _ A2 _ _ _ s₀ _ ((compStart (.GeneratorExp elt [⟨tg, iter, ifs, 0⟩] scope pos) 0 (.ref it) .none X.env).onRaise (leaving X.env)) [] s
  unfold compStart
  rw [Sem.onRaise_eq_wrap]
  show Seg _ A2 _ _ _ s₀ _ ((ask >>= _).wrap _ _ _ _) [] s
  refine seg_bind_wrap (wpAny_askSetting ?_)
  split
  · exact seg_again rfl loop
  · first
      | exact seg_bind_wrap (wpAny_rule (seg_bind_wrap (wpAny_standAt (seg_bind_wrap (T.self _ i s _ _ hst (seg_again rfl loop))))))
      | (refine seg_bind_wrap (wpAny_rule ?_); show Seg _ A2 _ _ _ s₀ _ ((standAt iter.pos >>= _).wrap _ _ _ _) [] s; exact seg_bind_wrap (wpAny_standAt (seg_bind_wrap (T.self _ i s _ _ hst (seg_again rfl loop)))))
/-- the sleeping generator number g; n: how often it may yet wake -/
structure GAt (X : Cx) (A2 : Around) (fp : List Addr) (tn : Nat → Heap → Prop) (σ : L2.St) (W : Nat → Nat → Hp → Prop) (Yd : Nat → Nat → V → Hp → Prop) (Fin : Hp → Prop) (g n : Nat) (s : Shared) : Prop where
  gs : ∃ gs, s.gens[g]? = some gs ∧ ∀ s'', SameH s s'' → gs.Goes (model X.prog X.w) A2 (fun _ _ r s₁ => r = .ok .next ∧ gEnd X σ Fin s₁) (gProto X fp tn σ W Yd) n (.send .none) s''
  inv : ∃ H, L2.Inv X [] σ H s
theorem gen_next {A1 : Around} {g n : Nat} {s : Shared} {a : Addr} {go : Obj} {Q : Option Value → Shared → Prop} {E : Value → Shared → Prop} (G : GAt X A1.in1 fp tn σ W Yd Fin g n s) (hh : A1.handled = none) (hroom : A1.depth < recursionLimit) (hgen : ∀ h : Heap, h.get? a = some go → h.IsGen a g) (hpin : (a, go) ∈ X.pn)
    (hv : ∀ (v : Value) (s' : Shared) (i m : Nat) (H : Hp) (y : V), RelV y v → Yd i m y H → L2.Inv X [] σ H s' → ((∃ m', m' < m ∧ W (i + 1) m' H) → ∃ n', n = n' + 1 ∧ GAt X A1.in1 fp tn σ W Yd Fin g n' s') → Q (some v) s') (he : ∀ s', gEnd X σ Fin s' → Q none s') :
    wpAny (model X.prog X.w) A1 (pyNext (.ref a)) Q E s := by
  obtain ⟨⟨gs, hgs, hgo⟩, H0, I⟩ := G
  have hlt : g < s.gens.size := by
    rcases Nat.lt_or_ge g s.gens.size with h' | h'
    · exact h'
    · rw [Array.getElem?_eq_none h'] at hgs; cases hgs
  refine GenW.wpAny_gsz (n := g + 1) hlt ?_
  refine wpAny_pyNext_genexpQ (P := fun _ _ s₁ => gEnd X σ Fin s₁) hh I.nolimit hroom (hgen _ (I.pin _ (List.mem_append_left _ hpin)).1) hgs (hgo _ (same_setGen I.bare rfl)) (fun v s₁ gs' hb hY hsz => ?_) (fun s₁ hP h' hk _ => ?_)
  · obtain ⟨i, m, H, y, _, rv, j, yd, kap⟩ := hY
    have sm : SameH s₁ (s₁.setGen g gs') := same_setGen j.inv.bare hb
    refine hv v _ i m H y rv yd (inv_same j.inv sm) fun hw => ?_
    have hself : (s₁.setGen g gs').gens[g]? = some gs' := by
      have : g < s₁.gens.size := by
        have := hsz
        rw [GenW.setGen_size] at this
        omega
      simp [Shared.setGen, this]
    cases n with
    | zero => exact (kap s₁ ⟨rfl, rfl, j.inv.bare⟩ hw).elim
    | succ n =>
      have key : ∀ s'', SameH (s₁.setGen g gs') s'' → gs'.Goes (model X.prog X.w) A1.in1 (fun _ _ r s₁ => r = .ok .next ∧ gEnd X σ Fin s₁) (gProto X fp tn σ W Yd) n (.send .none) s'' := fun s'' hs => kap s'' (sm.trans hs) hw
      exact ⟨n, rfl, ⟨gs', hself, key⟩, H, inv_same j.inv sm⟩
  · obtain ⟨H', I', f⟩ := hP
    refine he _ ⟨H', ?_, f⟩
    exact I'.call' (ch := []) rfl (Un.kept hk) (I'.hok.kept hk) (setGen_bare I'.bare rfl) fun b hb => by cases hb
/-- all -/
theorem all_loop {A : Around} {g : Nat} {a : Addr} {go : Obj} {Rr : Result → Shared → Prop} {FinB : Hp → Prop} (hh : A.handled = none) (hroom : A.depth < recursionLimit) (hgen : ∀ h : Heap, h.get? a = some go → h.IsGen a g) (hpin : (a, go) ∈ X.pn)
    (hyd : ∀ i m y H, Yd i m y H → ∃ b, y = .bl b ∧ (b = true → ∃ m', m' < m ∧ W (i + 1) m' H) ∧ (b = false → FinB H)) (hE : ∀ s', gEnd X σ Fin s' → Rr (.ok (.ret (.bool true))) s') (hB : ∀ s', gEnd X σ FinB s' → Rr (.ok (.ret (.bool false))) s') :
    ∀ (n : Nat) (s : Shared), GAt X A.in1.in1 fp tn σ W Yd Fin g n s → codeAny (model X.prog X.w) A (.builtin "all.loop" ⟨[.ref a], []⟩) Rr s := by
  intro n
  induction n using Nat.strongRecOn with
  | ind n ih =>
    intro s G
    refine codeAny_builtin F.entry_all_loop ?_
    rw [Around.under_plainId F.plain_all_loop _]
    show wpAny _ A.in1 (pyNext (.ref a) >>= _) _ _ s
    refine wpAny_bind (gen_next (A1 := A.in1) G hh hroom hgen hpin (fun v s' i m H y rv yd I' hn => ?_) fun s' e => ?_)
    · obtain ⟨b, rfl, h1, h2⟩ := hyd i m y H yd
      cases (show v = Value.bool b from rv)
      refine wpAny_bind (wpAny_holding (wpAny_truthy_bool ?_))
      refine wpAny_bind (wpAny_letGo ?_)
      cases b with
      | true =>
        simp only [if_true]
        obtain ⟨n', rfl, G'⟩ := hn (h1 rfl)
        exact wpAny_pure ⟨plainId_quiet F.plain_all_loop _, ih n' (by omega) s' G'⟩
      | false =>
        simp only [Bool.false_eq_true, if_false]
        exact wpAny_bind (wpAny_rule (wpAny_pure (hB s' ⟨H, I', h2 rfl⟩)))
    · exact wpAny_bind (wpAny_rule (wpAny_pure (hE s' e)))
theorem any_loop {A : Around} {g : Nat} {a : Addr} {go : Obj} {Rr : Result → Shared → Prop} {FinB : Hp → Prop} (hh : A.handled = none) (hroom : A.depth < recursionLimit) (hgen : ∀ h : Heap, h.get? a = some go → h.IsGen a g) (hpin : (a, go) ∈ X.pn)
    (hyd : ∀ i m y H, Yd i m y H → ∃ b, y = .bl b ∧ (b = false → ∃ m', m' < m ∧ W (i + 1) m' H) ∧ (b = true → FinB H)) (hE : ∀ s', gEnd X σ Fin s' → Rr (.ok (.ret (.bool false))) s') (hB : ∀ s', gEnd X σ FinB s' → Rr (.ok (.ret (.bool true))) s') :
    ∀ (n : Nat) (s : Shared), GAt X A.in1.in1 fp tn σ W Yd Fin g n s → codeAny (model X.prog X.w) A (.builtin "any.loop" ⟨[.ref a], []⟩) Rr s := by
  intro n
  induction n using Nat.strongRecOn with
  | ind n ih =>
    intro s G
    refine codeAny_builtin F.entry_any_loop ?_
    rw [Around.under_plainId F.plain_any_loop _]
    show wpAny _ A.in1 (pyNext (.ref a) >>= _) _ _ s
    refine wpAny_bind (gen_next (A1 := A.in1) G hh hroom hgen hpin (fun v s' i m H y rv yd I' hn => ?_) fun s' e => ?_)
    · obtain ⟨b, rfl, h1, h2⟩ := hyd i m y H yd
      cases (show v = Value.bool b from rv)
      refine wpAny_bind (wpAny_holding (wpAny_truthy_bool ?_))
      refine wpAny_bind (wpAny_letGo ?_)
      cases b with
      | false =>
        simp only [Bool.false_eq_true, if_false]
        obtain ⟨n', rfl, G'⟩ := hn (h1 rfl)
        exact wpAny_pure ⟨plainId_quiet F.plain_any_loop _, ih n' (by omega) s' G'⟩
      | true =>
        simp only [if_true]
        exact wpAny_bind (wpAny_rule (wpAny_pure (hB s' ⟨H, I', h2 rfl⟩)))
    · exact wpAny_bind (wpAny_rule (wpAny_pure (hE s' e)))
end
end Gw

set_option Elab.async false
set_option linter.all false
set_option maxRecDepth 100000
set_option maxHeartbeats 4000000
/-! The value layer: all(..), any(..) of a generator expression. -/
namespace Gw
open PySem PySem.Spec PyProof.Rows L2 GxR
/-- a generator expression's own scope -/
structure GenSc (scope : Scope) : Prop where
  co : scope.isCoroutine = false
  cell : ∀ y ∈ scope.names, y.2 ≠ .cell
  dot : scope.names.lookup (".0" : Str) = some NameKind.local
def genObj (g : Nat) (qn : Str) (t : Nat) : Obj := { cls := .type "generator", data := .fields #[.int g 0, .str "<genexpr>" (t + 1), .str qn (t + 1 + 1)] }
def tGenB (P : Addr) (stop : Bool) (wi : TI) (g : TG) (tt : TT) (te : TE) (vs : List Nat) : TE := fun σ H Q => wi σ H fun J H1 => GxR.TabG H1 P ∧ ∀ H2, Tabbed P H1 H2 →
  ∃ W : Nat → Nat → Hp → Prop, (∃ m, W 0 m H2) ∧ GTurn J g tt te σ vs W (fun i m y H => ∃ b, y = .bl b ∧ (b ≠ stop → ∃ m', m' < m ∧ W (i + 1) m' H) ∧ (b = stop → Q (.bl stop) H)) fun H => Q (.bl (!stop)) H
section
variable {X : Cx}
/-- made, and then f; the generator sleeps in the state that f sees -/
theorem gen_made {pins : List (Addr × Obj)} {σ : L2.St} {H : Hp} {s : Shared} {c P : Addr} {elt tg iter : Expr} {ifs : List Expr} {scope : Scope} {own : List (Str × Nat)} {gpos : Pos} {wi : TI} {Qf : Value → Shared → Prop} {R : It → Hp → Prop} {k : Nat} (hr : Room k X.A) (hc : X.calm = true) (hN : X.N.Nodup) (TB : TabB X.base X.mg c P) (hcode : X.env.code = .ref c) (S : GenSc scope) (ok : BlkOk X.N X.env.scope scope own)
    (hi : PI X tg iter wi) (hs : ∀ v, genFold iter X.env v = pure v) (I : L2.Inv X pins σ H s) (h : wi σ H fun J H1 => GxR.TabG H1 P ∧ R J H1)
    (hQ : ∀ (J : It) (H1 H2 : Hp) (code : Value) (it : Addr) (fp : List Addr) (tn : Nat → Heap → Prop) (s4 : Shared) (h5 : Heap) (m : Str → Option Value) (a : Addr) (go : Obj) (t5 : Nat), R J H1 → Tabbed P H1 H2 → L2.Inv X pins σ H2 s4 → Turn X.prog X.w X.K tg J fp it tn → tn 0 s4.heap → (∀ b ∈ fp, FpOk X pins H2 b ∧ b < s4.heap.objs.size) →
      (∀ b o, s4.heap.get? b = some o → h5.get? b = some o) → h5.Ns s4.heap.objs.size m → s4.heap.objs.size < a → h5.get? a = some go → (∀ h : Heap, h.get? a = some go → h.IsGen a s4.gens.size) → (∀ v, go.data ≠ .cell v) →
      Qf (.ref a) { s4 with gens := s4.gens.push (.fresh (.compStart (.GeneratorExp elt [⟨tg, iter, ifs, 0⟩] scope gpos) 0 (.ref it) .none (genEnv scope (cloFrom X.env.cells scope.names []) s4.heap.objs.size code builtinsNs X.env))), toks := t5, heap := h5 }) :
    wpAny (model X.prog X.w) X.A (eval (.GeneratorExp elt [⟨tg, iter, ifs, 0⟩] scope gpos) X.env) Qf X.xe s := by
  have hfree : ∀ y ∈ scope.names, y.2 = .free → ∃ c, X.env.cells.lookup y.1 = some c := fun y hy e => by
    rcases ok.free y hy e with k | k
    · exact I.ok.has _ (.inl k)
    · exact I.ok.has _ (.inr k)
  refine wpAny_GeneratorExp_make S.co (closure_ok hfree) S.cell S.dot ok.kind (by have := hr.dp; omega) (thn (hi.run pins s σ H _ I h) fun xv s1 hx => thn hx fun itv s2 h2 => ?_) hs
  obtain ⟨it, fp, tn, J, H1, rfl, I1, T, st1, f1, ⟨ps, hP, ht⟩, q1⟩ := h2
  refine ⟨I1.nolimit, ?_⟩
  have hPs : s2.heap.get? P = some { cls := .none, data := .fields ps } := I1.hok P _ hP
  have cd : PySem.W.CodeHd s2.heap c P := TB.code.keeps fun b u e => I1.bk b u e
  have fpP : ∀ b ∈ fp, b ≠ P := fun b hb e => by
    have z := (f1 b hb).1
    rw [e, hP] at z; cases z
  have fpz : ∀ b ∈ fp, b < s2.heap.objs.size := fun b hb => by
    obtain ⟨o, e, _⟩ := T.obj _ _ st1 b hb
    exact Heap.lt_size e
  have cont : ∀ (code : Value) (h3 : Heap) (tk : Nat) (more : Array Value), Heap.ExtBut P s2.heap h3 → s2.heap.objs.size ≤ h3.objs.size → h3.get? P = some { cls := .none, data := .fields (ps ++ more) } → TriplesOk (ps ++ more).toList →
      wpAny (model X.prog X.w) X.A (builtinsFor X.env.globals X.env.builtins) (fun bi s₄ => ∀ h', h'.Ns s₄.heap.objs.size (fun y => if y = ".0" then some (.ref it) else none) → Heap.SameBut s₄.heap.objs.size (s₄.heap.push { cls := .type "frame", data := .dict #[] }) h' →
          Qf (.ref h'.objs.size) { s₄ with
            gens := s₄.gens.push (.fresh (.compStart (.GeneratorExp elt [⟨tg, iter, ifs, 0⟩] scope gpos) 0 (.ref it) .none (genEnv scope (cloFrom X.env.cells scope.names []) s₄.heap.objs.size code bi X.env))),
            toks := s₄.toks + 1 + 1 + 1,
            heap := h'.push { cls := .type "generator", data := .fields #[.int s₄.gens.size 0, .str "<genexpr>" (s₄.toks + 1), .str (X.env.qual ++ "<genexpr>") (s₄.toks + 1 + 1)] } }) X.xe { s2 with heap := h3, toks := tk } := by
    intro code h3 tk more hx hsz hP3 ht3
    obtain ⟨bm, ob, e1, e2, e3, e4, e5, e6, e7, e8⟩ := TB.bm
    have keep3 : ∀ b u, b ≠ P → s2.heap.get? b = some u → h3.get? b = some u := fun b u hb e => hx b u hb e
    refine wpAny_builtinsFor (m := X.mg) (by rw [I1.ok.glob]; exact (I1.mod.glob.keeps I1.bk).extBut hx TB.gP) e1 e2 (keep3 _ _ e4 (I1.bk _ _ e5)) e6 e7 e8 ?_
    intro h' hn' hs'
    have I4 : L2.Inv X pins σ (upd H1 P (.tbl (ps ++ more))) { s2 with heap := h3, toks := tk } := by
      have q := inv_tab (more := more) (h' := h3) (g' := s2.gens) (d' := s2.drawn) (t' := tk) I1 hP keep3 hP3 I1.bare
      exact q
    have hz : h'.objs.size = h3.objs.size + 1 := by rw [hs'.1, Heap.size_push]
    have kp : ∀ b o, h3.get? b = some o → (h'.push { cls := .type "generator", data := .fields #[.int s2.gens.size 0, .str "<genexpr>" (tk + 1), .str (X.env.qual ++ "<genexpr>") (tk + 1 + 1)] }).get? b = some o := fun b o e =>
      Heap.get?_push_of_some _ (hs'.extBut b o (Nat.ne_of_lt (Heap.lt_size e)) (Heap.get?_push_of_some _ e))
    refine hQ J H1 (upd H1 P (.tbl (ps ++ more))) code it fp tn { s2 with heap := h3, toks := tk } _ _ h'.objs.size { cls := .type "generator", data := .fields #[.int s2.gens.size 0, .str "<genexpr>" (tk + 1), .str (X.env.qual ++ "<genexpr>") (tk + 1 + 1)] } _ q1 ⟨⟨_, upd_same, ht3⟩, fun b hb => upd_ne hb⟩ I4 T (T.keep _ _ _ st1 fun b hb o e => keep3 b o (fpP b hb) e) (fun b hb => ⟨⟨?_, (f1 b hb).2⟩, Nat.lt_of_lt_of_le (fpz b hb) hsz⟩) kp (hn'.push _) (by show h3.objs.size < _; omega) (Heap.get?_push_size _ rfl) (fun h e => ⟨_, _, _, e, rfl, rfl, rfl⟩) fun v z => by cases z
    rw [upd_ne (fpP b hb)]; exact (f1 b hb).1
  cases hf : codeAmong gpos ps.toList with
  | none =>
    refine wpAny_genexprCodeX hcode (cd.code hPs ht) (cd.tab hPs) hf fun c' h' tk hx hge hlt hco' _ htab' _ => ?_
    obtain ⟨o1, vs, f1, tf, fl, tg, inF, tx, tt, op, _, _, _, _, _, _, _, _, _, htr, _⟩ := hco'
    exact cont _ h' tk _ hx (Nat.le_trans hge (Nat.le_of_lt hlt)) htab'.2 htr
  | some cv =>
    refine wpAny_genexprCode_hit hcode (cd.code hPs ht) hf ?_
    exact cont cv s2.heap s2.toks #[] (Heap.ExtBut.refl _ _) (Nat.le_refl _) (by simpa using hPs) (by simpa using ht)
end
end Gw

set_option Elab.async false
set_option linter.all false
set_option maxRecDepth 100000
set_option maxHeartbeats 4000000
/-! The value layer: all(..), any(..) of a generator expression: the rule. -/
namespace Gw
open PySem PySem.Spec PyProof.Rows L2 GxR
section
variable {X : Cx}
/-- the generator's around -/
abbrev genA (A : Around) (elt tg iter : Expr) (ifs : List Expr) (scope : Scope) (gpos : Pos) (it : Addr) (cenv : PySem.Env) : Around := A.in1.in1.over (.compLoop (.GeneratorExp elt [⟨tg, iter, ifs, 0⟩] scope gpos) 0 (.ref it) .none cenv) []
theorem genA_room {k : Nat} {A : Around} {elt tg iter : Expr} {ifs : List Expr} {scope : Scope} {gpos : Pos} {it : Addr} {cenv : PySem.Env} (r : Room (k + 1) A) : Room k (genA A elt tg iter ifs scope gpos it cenv) := by
  refine ⟨r.hd, ?_, ?_⟩
  · have h : (genA A elt tg iter ifs scope gpos it cenv).depth = A.depth + 1 := rfl
    have := r.dp
    omega
  · have h : (genA A elt tg iter ifs scope gpos it cenv).units = A.units + 5 := rfl
    have := r.un
    omega
/-- everything is ready: the sleeping generator -/
theorem gen_ready {pins : List (Addr × Obj)} {σ : L2.St} {elt tg iter : Expr} {ifs : List Expr} {scope : Scope} {own : List (Str × Nat)} {gpos : Pos} {g : TG} {tt : TT} {te : TE} {k : Nat} (hr : Room (k + 1) X.A) (hc : X.calm = true) (hN : X.N.Nodup) (S : GenSc scope) (ok : BlkOk X.N X.env.scope scope own)
    (hg : ∀ (Ag : Around) (s : Shared) (H : Hp) (C : Addr) (code : Value) (cl : List (Str × Addr)) (fp : List Addr) (pn : List (Addr × Obj)), Room k Ag → PG (genX X Ag s H (genEnv scope cl C code builtinsNs X.env) fp pn) tg g)
    (ht : ∀ (Ag : Around) (s : Shared) (H : Hp) (C : Addr) (code : Value) (cl : List (Str × Addr)) (fp : List Addr) (pn : List (Addr × Obj)), Room k Ag → PTs (genX X Ag s H (genEnv scope cl C code builtinsNs X.env) fp pn) ifs tt)
    (he : ∀ (Ag : Around) (s : Shared) (H : Hp) (C : Addr) (code : Value) (cl : List (Str × Addr)) (fp : List Addr) (pn : List (Addr × Obj)), Room k Ag → PE (genX X Ag s H (genEnv scope cl C code builtinsNs X.env) fp pn) elt te)
    {J : It} {H2 : Hp} {code : Value} {it : Addr} {fp : List Addr} {tn : Nat → Heap → Prop} {s4 : Shared} {h5 : Heap} {m : Str → Option Value} {a : Addr} {go : Obj} {t5 : Nat} {W : Nat → Nat → Hp → Prop} {Yd : Nat → Nat → V → Hp → Prop} {Fin : Hp → Prop} {m0 : Nat}
    (I4 : L2.Inv X pins σ H2 s4) (T : Turn X.prog X.w X.K tg J fp it tn) (st : tn 0 s4.heap) (hfp : ∀ b ∈ fp, FpOk X pins H2 b ∧ b < s4.heap.objs.size) (kp : ∀ b o, s4.heap.get? b = some o → h5.get? b = some o) (hns : h5.Ns s4.heap.objs.size m) (ha : s4.heap.objs.size < a) (hgo : h5.get? a = some go) (hgd : ∀ v, go.data ≠ .cell v)
    (w0 : W 0 m0 H2) (turn : GTurn J g tt te σ (own.map (·.2)) W Yd Fin) :
    GAt (genX X (genA X.A elt tg iter ifs scope gpos it (genEnv scope (cloFrom X.env.cells scope.names []) s4.heap.objs.size code builtinsNs X.env)) s4 H2 (genEnv scope (cloFrom X.env.cells scope.names []) s4.heap.objs.size code builtinsNs X.env) fp [(a, go)]) X.A.in1.in1 fp tn (L2.wipe σ (own.map (·.2))) W Yd Fin s4.gens.size m0
      { s4 with gens := s4.gens.push (.fresh (.compStart (.GeneratorExp elt [⟨tg, iter, ifs, 0⟩] scope gpos) 0 (.ref it) .none (genEnv scope (cloFrom X.env.cells scope.names []) s4.heap.objs.size code builtinsNs X.env))), toks := t5, heap := h5 } := by
  generalize hce : genEnv scope (cloFrom X.env.cells scope.names []) s4.heap.objs.size code builtinsNs X.env = cenv
  have hf : (genA X.A elt tg iter ifs scope gpos it cenv).frames = some (cenv :: X.stack) := by
    show pushEnvs [cenv] (pushEnvs [] X.A.frames) = _
    rw [I4.ok.frames]; rfl
  have hR : Room k (genA X.A elt tg iter ifs scope gpos it cenv) := genA_room hr
  have Ig : L2.Inv (genX X (genA X.A elt tg iter ifs scope gpos it cenv) s4 H2 cenv fp [(a, go)]) [] (L2.wipe σ (own.map (·.2))) H2 { s4 with gens := s4.gens.push (.fresh (.compStart (.GeneratorExp elt [⟨tg, iter, ifs, 0⟩] scope gpos) 0 (.ref it) .none cenv)), toks := t5, heap := h5 } := by
    have q := gen_start (Ag := genA X.A elt tg iter ifs scope gpos it cenv) (code := code) (d5 := s4.drawn) (t5 := t5) (g5 := s4.gens.push (.fresh (.compStart (.GeneratorExp elt [⟨tg, iter, ifs, 0⟩] scope gpos) 0 (.ref it) .none cenv))) I4 ok S.cell hN hfp hr.hd (by rw [hce]; exact hf) kp hns ha hgo hgd (I4.bare.push rfl)
    rw [hce] at q
    exact q
  have st5 : tn 0 h5 := T.keep _ _ _ st fun b hb o e => kp b o e
  have nfp : ∀ b ∈ fp, H2 b = none := fun b hb => (hfp b hb).1.1
  refine ⟨⟨_, Array.getElem?_push_size .., fun s'' hs => ⟨rfl, ?_⟩⟩, H2, Ig⟩
  have j : GJ (genX X (genA X.A elt tg iter ifs scope gpos it cenv) s4 H2 cenv fp [(a, go)]) fp tn (L2.wipe σ (own.map (·.2))) 0 H2 s'' := GJ.same ⟨Ig, st5, nfp⟩ hs
  have pg := hg (genA X.A elt tg iter ifs scope gpos it cenv) s4 H2 s4.heap.objs.size code (cloFrom X.env.cells scope.names []) fp [(a, go)] hR
  have pt := ht (genA X.A elt tg iter ifs scope gpos it cenv) s4 H2 s4.heap.objs.size code (cloFrom X.env.cells scope.names []) fp [(a, go)] hR
  have pe := he (genA X.A elt tg iter ifs scope gpos it cenv) s4 H2 s4.heap.objs.size code (cloFrom X.env.cells scope.names []) fp [(a, go)] hR
  rw [hce] at pg pt pe
  refine gen_begin (X := genX X (genA X.A elt tg iter ifs scope gpos it cenv) s4 H2 cenv fp [(a, go)]) (i := 0) T j.tn ?_
  refine gen_loop (X := genX X (genA X.A elt tg iter ifs scope gpos it cenv) s4 H2 cenv fp [(a, go)]) rfl hc ?_ rfl rfl T (fun p hp z => ?_) pg pt pe turn m0 0 H2 s'' j w0 m0 (Nat.le_refl _) s''
  · show cenv.scope.isCoroutine = false
    rw [← hce]; exact S.co
  · have : p = (a, go) := by simpa using hp
    subst this
    exact absurd (Nat.lt_trans (hfp _ z).2 ha) (Nat.lt_irrefl _)
/-- back in the def's frame -/
theorem gen_back {pins : List (Addr × Obj)} {σ σ' : L2.St} {H2 H' : Hp} {s4 s' : Shared} {Ag : Around} {cenv : PySem.Env} {fp : List Addr} {pn : List (Addr × Obj)} (I4 : L2.Inv X pins σ H2 s4) (hfp : ∀ b ∈ fp, FpOk X pins H2 b ∧ b < s4.heap.objs.size) (I : L2.Inv (genX X Ag s4 H2 cenv fp pn) [] σ' H' s') : L2.Inv X pins σ H' s' :=
  I4.call' (ch := fp) I.os I.base I.hok I.bare fun b hb => ⟨(hfp b hb).1.2.2.2.1, (hfp b hb).1.2.1, (hfp b hb).1.2.2.2.2.1, (hfp b hb).1.2.2.2.2.2⟩
theorem boot_gen (stop : Bool) : bootBuiltins ((gnN stop : String) : Str) = some (.builtin (gnN stop)) := by cases stop <;> rfl
theorem pe_genB {c P : Addr} {elt tg iter : Expr} {ifs : List Expr} {scope : Scope} {own : List (Str × Nat)} {gpos p pos : Pos} {wi : TI} {g : TG} {tt : TT} {te : TE} {k : Nat} {stop : Bool} (hr : Room (k + 1) X.A) (hc : X.calm = true) (hN : X.N.Nodup) (TB : TabB X.base X.mg c P) (hcode : X.env.code = .ref c) (S : GenSc scope) (ok : BlkOk X.N X.env.scope scope own)
    (hgl : Gl X ((gnN stop : String) : Str)) (hm : X.mg ((gnN stop : String) : Str) = none) (hi : PI X tg iter wi) (hs : ∀ v, genFold iter X.env v = pure v)
    (hg : ∀ (Ag : Around) (s : Shared) (H : Hp) (C : Addr) (code : Value) (cl : List (Str × Addr)) (fp : List Addr) (pn : List (Addr × Obj)), Room k Ag → PG (genX X Ag s H (genEnv scope cl C code builtinsNs X.env) fp pn) tg g)
    (ht : ∀ (Ag : Around) (s : Shared) (H : Hp) (C : Addr) (code : Value) (cl : List (Str × Addr)) (fp : List Addr) (pn : List (Addr × Obj)), Room k Ag → PTs (genX X Ag s H (genEnv scope cl C code builtinsNs X.env) fp pn) ifs tt)
    (he : ∀ (Ag : Around) (s : Shared) (H : Hp) (C : Addr) (code : Value) (cl : List (Str × Addr)) (fp : List Addr) (pn : List (Addr × Obj)), Room k Ag → PE (genX X Ag s H (genEnv scope cl C code builtinsNs X.env) fp pn) elt te) :
    PE X (.Call (.Name ((gnN stop : String) : Str) p) [.GeneratorExp elt [⟨tg, iter, ifs, 0⟩] scope gpos] [] pos) (tGenB P stop wi g tt te (own.map (·.2))) := by
  refine ⟨fun pins s σ H Q I h => ?_⟩
  have hst : starEach [.GeneratorExp elt [⟨tg, iter, ifs, 0⟩] scope gpos] X.env = (false, eval (.GeneratorExp elt [⟨tg, iter, ifs, 0⟩] scope gpos) X.env) :: starEach [] X.env := rfl
  refine wpAny_Call_Name_kw (ld_blt I hgl hm (boot_gen stop) ?_ (by cases stop <;> decide +kernel) (by cases stop <;> decide +kernel))
  refine PyProof.Rows.callWith_builtin1 ?_ hst (by rfl)
  rw [hst]
  show wpAny _ _ (spliced ((false, eval (.GeneratorExp elt [⟨tg, iter, ifs, 0⟩] scope gpos) X.env) :: backTo pos (starEach [] X.env))) _ _ s
  refine Calls.spliced_cons (gen_made hr hc hN TB hcode S ok hi hs I h fun J H1 H2 code it fp tn s4 h5 m a go t5 q tab I4 T st hfp kp hns ha hgo hgen hgd => ?_)
  obtain ⟨W, ⟨m0, w0⟩, turn⟩ := q H2 tab
  refine Calls.spliced_nil ?_
  have G := gen_ready (iter := iter) (gpos := gpos) (t5 := t5) (code := code) hr hc hN S ok hg ht he I4 T st hfp kp hns ha hgo hgd w0 turn
  have room : X.A.depth < recursionLimit := by have := hr.dp; omega
  have fin : ∀ (b : Bool) (F : Hp → Prop), (∀ H', F H' → Q (.bl b) H') → ∀ s', gEnd (genX X (genA X.A elt tg iter ifs scope gpos it (genEnv scope (cloFrom X.env.cells scope.names []) s4.heap.objs.size code builtinsNs X.env)) s4 H2 (genEnv scope (cloFrom X.env.cells scope.names []) s4.heap.objs.size code builtinsNs X.env) fp [(a, go)]) (L2.wipe σ (own.map (·.2))) F s' → EP X pins σ Q (.bool b) s' := fun b F hF s' ⟨H', I', f⟩ => ⟨.bl b, H', gen_back I4 hfp I', rfl, hF H' f⟩
  cases stop with
  | false =>
    show wpAny _ _ (call (.builtin "all") [.ref a]) _ _ _
    refine call_function_tree F.kind_all F.plain_all F.entry_all (F.args_all1 _) ?_
    unfold Builtin.«all»
    refine wpAny_bind (m := oneArg "all" _) (wpAny_pure ?_)
    refine wpAny_bind (wpAny_pyIter_gen (hgen _ hgo) ?_)
    refine wpAny_pure ⟨plainId_quiet F.plain_all_loop _, all_loop (A := X.A) (FinB := fun H => Q (.bl false) H) hr.hd room hgen (List.mem_singleton.mpr rfl) (fun i m y H ⟨b, e, h1, h2⟩ => ⟨b, e, fun z => h1 (by rw [z]; decide), fun z => h2 z⟩) (fun s' e => fin true _ (fun _ f => f) s' e) (fun s' e => fin false _ (fun _ f => f) s' e) m0 _ G⟩
  | true =>
    show wpAny _ _ (call (.builtin "any") [.ref a]) _ _ _
    refine call_function_tree F.kind_any F.plain_any F.entry_any (F.args_any1 _) ?_
    unfold Builtin.«any»
    refine wpAny_bind (m := oneArg "any" _) (wpAny_pure ?_)
    refine wpAny_bind (wpAny_pyIter_gen (hgen _ hgo) ?_)
    refine wpAny_pure ⟨plainId_quiet F.plain_any_loop _, any_loop (A := X.A) (FinB := fun H => Q (.bl true) H) hr.hd room hgen (List.mem_singleton.mpr rfl) (fun i m y H ⟨b, e, h1, h2⟩ => ⟨b, e, fun z => h1 (by rw [z]; decide), fun z => h2 z⟩) (fun s' e => fin false _ (fun _ f => f) s' e) (fun s' e => fin true _ (fun _ f => f) s' e) m0 _ G⟩
end
end Gw

set_option Elab.async false
set_option linter.all false
set_option maxRecDepth 100000
set_option maxHeartbeats 4000000
/-! The value layer: all(..), any(..) of a generator expression: as the small syntax says. -/
namespace Gw
open PySem L2
section
variable {gi : GI} {G : Glo} {tabs : List Addr} {N : List Str} {sc ts : Scope} {k : Nat} {X : Cx}
theorem noCell_iff {scope : Scope} (h : noCell scope = true) : ∀ y ∈ scope.names, y.2 ≠ .cell := fun y hy e => by
  unfold noCell at h
  have q := List.all_eq_true.mp h y hy
  rw [e] at q
  cases q
theorem XOk.gen (o : XOk gi G tabs N sc ts k X) {scope : Scope} (hc : noCell scope = true) {Ag : Around} (hr : Room k Ag) (s : Shared) (H : Hp) (C : Addr) (code : Value) (cl : List (Str × Addr)) (fp : List Addr) (pn : List (Addr × Obj)) :
    XOk gi.off G tabs N scope scope k (genX X Ag s H (genEnv scope cl C code builtinsNs X.env) fp pn) where
  hN := o.hN
  sc := rfl
  calm := o.calm
  nd := o.nd
  dbg := o.dbg
  room := hr
  roomG := fun h => by cases h
  code := fun h => by cases h
  blt := o.blt
  fn := o.fn
  cst := o.cst
  fnm := fun x h => by
    rcases isLoc_iff h with q | q
    · exact ⟨.inl q, .inr q⟩
    · exact (noCell_iff hc _ (PySem.mem_of_lookup q) rfl).elim
theorem runE_gen {gk : Gk} (hk : gk ≠ .sum) (elt : E) (t : T) (it : I) (c : E) (ρ : Env) : runE G (.gen gk elt t it c) ρ = (runI G it ρ).bind fun s => if wipable s.2.1 t.slots then
      (loopB gk.stop (turnC (setT t) t.slots (runC G c) (runL G elt)) s.1 (wipe s.2.1 t.slots)).bind fun z => (back s.2.2 z.2).bind fun ρ' => .ok (.val (.bl z.1), ρ') else .stuck := by
  cases gk with
  | sum => exact (hk rfl).elim
  | all => simp only [runE]; rfl
  | any => simp only [runE]; rfl
theorem genB_read {gk : Gk} (hk : gk ≠ .sum) {elt : E} {t : T} {it : I} {c : E} {B : Bs} {P : Addr} (hP : P ∈ B.tabs) {σ : L2.St} {H : Hp} {Q : VK} (h : tE X.K B (runE G (.gen gk elt t it c)) σ H Q) :
    tGenB P gk.stop (iD X.K B (runI G it)) (gD X.K B t) (tCnd X.K B G c) (tE X.K B (runE G elt)) t.slots σ H Q := by
  obtain ⟨ρ, tt, vs, r, ρ', hR, hl, hF, hQ⟩ := h
  rw [runE_gen hk] at hF
  obtain ⟨⟨ds, ρ1, mv⟩, g1, hF⟩ := Res.bind_ok hF
  by_cases hw : wipable ρ1 t.slots = true
  · simp only [hw, if_true] at hF
    obtain ⟨⟨bF, ρF⟩, g2, hF⟩ := Res.bind_ok hF
    obtain ⟨ρb, g3, hF⟩ := Res.bind_ok hF
    cases hF
    refine ⟨ρ, tt, vs, ds, ρ1, mv, hR, hl, g1, fun J H1 s v hH R1 wk => ⟨R1.tab P hP, fun H2 tab => ?_⟩⟩
    have R1 := R1.grow (H' := H2) ⟨fun a o e n => by
        have ne : a ≠ P := fun z => by
          obtain ⟨ps, q, _⟩ := R1.tab P hP
          rw [z, q] at e
          cases e
          exact n ps rfl
        rw [tab.2 a ne]; exact e, fun a ps e => by
        by_cases z : a = P
        · obtain ⟨ps', q, _⟩ := tab.1
          exact ⟨ps', by rw [z]; exact q⟩
        · exact ⟨ps, by rw [tab.2 a z]; exact e⟩, fun a ha q => by
        by_cases z : a = P
        · rw [z]; exact tab.1
        · obtain ⟨ps, e, tr⟩ := q
          exact ⟨ps, by rw [tab.2 a z]; exact e, tr⟩⟩
    have hlt : tt.length = vs.length := by have a := hR.len; simp at a; omega
    have l1 : ρ1.length = σ.length := by have a := hR.len; have b := R1.len; simp at a b; omega
    have R1a : R X.K B (ρ1 ++ (tt ++ [s])) (σ ++ (vs ++ [v])) H2 := by simpa using R1
    have hra := wipable_ra R1a hw
    have R2 := R1a.wiped (sl := t.slots) (σ' := L2.wipe σ t.slots) l1 (L2.wipe_length _ _) (fun j hj => L2.wipe_out hj) fun j hj => (hra j hj).1
    have fin : ∀ {He : Hp}, ρF.length = σ.length → (∀ j ∈ t.slots, ρF[j]? = some .no) → R X.K B (ρF ++ tt ++ [s]) (L2.wipe σ t.slots ++ vs ++ [v]) He → Q (.bl bF) He := fun {He} le hno R5 => by
      have R6 : R X.K B (ρF ++ tt ++ [s]) (σ ++ vs ++ [v]) He := by
        refine R5.unwipe (by simp [L2.wipe_length]) fun j => ?_
        by_cases hj : j ∈ t.slots
        · right
          exact getL (getL (hno j hj))
        · left
          simp only [List.append_assoc]
          by_cases hz : j < σ.length
          · rw [List.getElem?_append_left hz, List.getElem?_append_left (by rw [L2.wipe_length]; exact hz), L2.wipe_out hj]
          · rw [List.getElem?_append_right (l₁ := σ) (by omega), List.getElem?_append_right (l₁ := L2.wipe σ t.slots) (by rw [L2.wipe_length]; omega), L2.wipe_length]
      have R7 := R6.home hH g3 le
      exact hQ _ He (R7.push_val (.bl bF))
    refine ⟨fun i m H => m = ds.length - i ∧ i ≤ ds.length ∧ ∃ ρi : Env, ρi.length = σ.length ∧ (∀ j ∈ t.slots, ρi[j]? = some .no) ∧ R X.K B (ρi ++ tt ++ [s]) (L2.wipe σ t.slots ++ vs ++ [v]) H ∧ loopB gk.stop (turnC (setT t) t.slots (runC G c) (runL G elt)) (ds.drop i) ρi = .ok (bF, ρF), ⟨ds.length, rfl, Nat.zero_le _, wipe ρ1 t.slots, by simp [wipe_len, l1], fun j hj => wipe_in hj (hra j hj).2, by simpa using R2, g2⟩, ?_⟩
    rintro i m H5 ⟨rfl, hi, ρi, li, hno, R5, gl⟩
    have l5 : (ρi ++ tt).length = (L2.wipe σ t.slots ++ vs).length := by simp [li, L2.wipe_length, hlt]
    by_cases hlt2 : i < ds.length
    · right
      obtain ⟨d, hd⟩ : ∃ d, ds[i]? = some d := ⟨ds[i], List.getElem?_eq_getElem hlt2⟩
      have hdr : ds.drop i = d :: ds.drop (i + 1) := by
        rw [List.drop_eq_getElem_cons hlt2]
        rw [List.getElem?_eq_getElem hlt2] at hd
        cases hd; rfl
      rw [hdr] at gl
      simp only [loopB] at gl
      obtain ⟨⟨ys, ρn⟩, g4, gl⟩ := Res.bind_ok gl
      simp only [turnC] at g4
      obtain ⟨ρ2, g5, g4⟩ := Res.bind_ok g4
      have g5 := Res.of_ok g5
      obtain ⟨⟨b, ρ3⟩, g6, g4⟩ := Res.bind_ok g4
      refine ⟨(wk B).go i _ _ H5 hlt2 l5 R5, by omega, fun H' => ∃ ρi : Env, ρi.length = σ.length ∧ (∀ j ∈ t.slots, ρi[j]? = some .no) ∧ R X.K B (ρi ++ tt ++ [s]) (L2.wipe σ t.slots ++ vs ++ [v]) H' ∧ loopB gk.stop (turnC (setT t) t.slots (runC G c) (runL G elt)) (ds.drop (i + 1)) ρi = .ok (bF, ρF), fun H' ⟨ρi', q1, q2, q3, q4⟩ => ⟨ds.length - (i + 1), by omega, rfl, hlt2, ρi', q1, q2, q3, q4⟩, fun x H' y => ?_⟩
      have R6 := (wk B).yld i _ _ H5 x H' d hd l5 R5 y
      refine ⟨ρi, tt ++ [s], vs ++ [v], d, ρ2, by simpa using R6, by simp [li, L2.wipe_length], g5, fun σ2 H2 s1 s2 R7 => ?_⟩
      rw [L2.wipe_length] at s1
      have s3 : ∀ j, j ∉ t.slots → σ2[j]? = σ[j]? := fun j hj => by rw [s2 j hj, L2.wipe_out hj]
      refine ⟨lwipe_eq s1 s3, ?_⟩
      have l7 : ρ2.length = σ2.length := by have a := R7.len; simp at a; omega
      refine ⟨ρ2, tt ++ [s], vs ++ [v], b, ρ3, R7, l7, g6, fun H3 R8 => ?_⟩
      have l8 : ρ3.length = σ2.length := by have a := R8.len; simp at a; omega
      have done : ∀ {ρe : Env} {He : Hp}, ρe.length = σ2.length → R X.K B (ρe ++ tt ++ [s]) (σ2 ++ vs ++ [v]) He → R X.K B (wipe ρe t.slots ++ tt ++ [s]) (L2.wipe σ t.slots ++ vs ++ [v]) He := fun {ρe He} le Re => by
        have q : R X.K B (ρe ++ (tt ++ [s])) (σ2 ++ (vs ++ [v])) He := by simpa using Re
        have q2 := q.wiped (sl := t.slots) (σ' := L2.wipe σ t.slots) le (by rw [L2.wipe_length, s1]) (fun j hj => by rw [L2.wipe_out hj, s3 j hj]) fun j hj => (hra j hj).1
        simpa using q2
      have R8' : R X.K B (ρ3 ++ tt ++ [s]) (σ2 ++ vs ++ [v]) H3 := by simpa using R8
      cases b with
      | false =>
        simp only [Bool.false_eq_true, if_false] at g4 ⊢
        cases g4
        exact ⟨wipe ρ3 t.slots, by rw [wipe_len]; omega, fun j hj => wipe_in hj (by have := (hra j hj).2; omega), done l8 R8', gl⟩
      | true =>
        simp only [if_true] at g4 ⊢
        obtain ⟨⟨ys', ρ5⟩, g7, g4⟩ := Res.bind_ok g4
        cases g4
        unfold runL at g7
        obtain ⟨⟨re, ρ4⟩, g8, g7⟩ := Res.bind_ok g7
        cases g7
        refine ⟨ρ3, tt ++ [s], vs ++ [v], re, ρ4, by simpa using R8, l8, g8, fun y H4 R9 => ?_⟩
        obtain ⟨q0, q1⟩ := R9.take1
        have l9 : ρ4.length = σ2.length := by have a := q0.len; simp at a; omega
        have q0' : R X.K B (ρ4 ++ tt ++ [s]) (σ2 ++ vs ++ [v]) H4 := by simpa using q0
        have R10 := done l9 q0'
        have n10 : ∀ j ∈ t.slots, (wipe ρ4 t.slots)[j]? = some .no := fun j hj => wipe_in hj (by have := (hra j hj).2; omega)
        simp only at gl
        cases ed : re.d with
        | bl b =>
          rw [ed] at gl q1
          simp only at gl
          refine ⟨b, q1.blV, fun hb => ?_, fun hb => ?_⟩
          · have e : (b == gk.stop) = false := by simpa using hb
            rw [e] at gl
            simp only [Bool.false_eq_true, if_false] at gl
            exact ⟨ds.length - (i + 1), by omega, rfl, hlt2, _, by rw [wipe_len]; omega, n10, R10, gl⟩
          · have e : (b == gk.stop) = true := by simpa using hb
            rw [e] at gl
            simp only [if_true] at gl
            cases gl
            exact fin (by rw [wipe_len]; omega) n10 R10
        | _ => rw [ed] at gl; cases gl
    · left
      have e : i = ds.length := by omega
      subst e
      rw [List.drop_length] at gl
      simp only [loopB] at gl
      cases gl
      exact ⟨(wk B).stop _ _ H5 l5 R5, fin li hno R5⟩
  · simp only [hw] at hF; cases hF
theorem notsetG {x : Expr} (h : isSetE x = false) (h2 : asLst x = none) (env : PySem.Env) : ∀ v, genFold x env v = pure v := fun v => by
  cases x <;> first | rfl | (simp [isSetE] at h; done) | (simp [asLst] at h2)
theorem snd_gen (o : XOk gi G tabs N sc ts k X) {gk : Gk} {elt c : E} {t : T} {it : I} {x : Expr} (h : okE gi N sc (.gen gk elt t it c) x = true) (ihi : IHI gi G tabs N it) (ihc : IH gi.off G tabs N c) (ihe : IH gi.off G tabs N elt) : SE tabs X x (runE G (.gen gk elt t it c)) := fun B hB => by
  simp only [okE] at h
  split at h
  · rename_i f y e
    obtain ⟨p, pos, rfl⟩ := asCall_some e
    simp only [Bool.and_eq_true, decide_eq_true_eq] at h
    obtain ⟨⟨⟨⟨hg, hk⟩, rfl⟩, hgl⟩, h⟩ := h
    cases e2 : asGen y with
    | none => rw [e2] at h; cases h
    | some z =>
      rw [e2] at h
      simp only [Bool.and_eq_true, Option.isNone_iff_eq_none] at h
      obtain ⟨gpos, rfl⟩ := asGen_some e2
      obtain ⟨⟨⟨⟨⟨h1, h0⟩, h2⟩, h3⟩, h4⟩, h5⟩ := h
      unfold genC at h1
      simp only [Bool.and_eq_true, Bool.not_eq_true'] at h1
      obtain ⟨⟨⟨h1, hco⟩, hnc⟩, hdot⟩ := h1
      obtain ⟨cc, P, ecode, TB, hP⟩ := o.code hg
      have S : GenSc z.scope := ⟨hco, noCell_iff hnc, by
        unfold dotLoc at hdot
        split at hdot
        · assumption
        · cases hdot⟩
      have ob := fun Ag s H C code cl fp pn (hr : Room k Ag) => o.gen hnc hr s H C code cl fp pn
      have q := pe_genB (X := X) (stop := gk.stop) (p := p) (pos := pos) (gpos := gpos) (own := ownOf N t.slots) (tg := z.tg) (elt := z.elt) (te := tE X.K B (runE G elt)) (tt := tCnd X.K B G c) (g := gD X.K B t) (o.roomG hg) o.calm (by rw [o.hN]; exact o.nd) TB ecode S (by rw [o.hN, o.sc]; exact blkOk_by h1) (o.gl hgl) (o.blt _ (by cases gk.stop <;> decide)) (ihi o z.tg z.iter h2 B hB) (notsetG (okI_set h2) h0 _)
        (fun Ag s H C code cl fp pn hr => pg_ok (ob Ag s H C code cl fp pn hr) B t z.tg h3) (fun Ag s H C code cl fp pn hr => snd_ifs h4 (ihc.st (ob Ag s H C code cl fp pn hr)) B hB) (fun Ag s H C code cl fp pn hr => ihe.se (ob Ag s H C code cl fp pn hr) z.elt h5 B hB)
      rw [own_slots] at q
      exact q.imp fun σ H Q hq => genB_read hk (by rw [hB]; exact hP) hq
  · cases h
end
end Gw

set_option Elab.async false
set_option linter.all false
set_option maxRecDepth 100000
set_option maxHeartbeats 2000000
/-! The value layer, part 14: every expression. -/
namespace Gw
open PySem L2
section
variable {gi : GI} {G : Glo} {tabs : List Addr} {N : List Str} {sc ts : Scope} {k : Nat} {X : Cx}
def tIfT (tc ta tb : TT) : TT := fun σ H Q => tc σ H fun d H1 => if d = true then ta σ H1 Q else tb σ H1 Q
theorem pt_ifExp {c a b : Expr} {pos : Pos} {tc ta tb : TT} (hc : PT X c tc) (ha : PT X a ta) (hb : PT X b tb) : PT X (.IfExp c a b pos) (tIfT tc ta tb) := by
  refine ⟨fun pins s σ H Q I h => ?_⟩
  have e : PySem.isTrue (.IfExp c a b pos) X.env (eval (.IfExp c a b pos) X.env) = (do if ← PySem.isTrue c X.env (eval c X.env) then PySem.isTrue a X.env (eval a X.env) else PySem.isTrue b X.env (eval b X.env)) := by
    rw [PySem.isTrue]
  rw [e]
  refine wpAny_bind (wpAny_mono (hc.run pins s σ H _ I h) (fun d s1 ⟨H1, I1, q1⟩ => ?_) fun _ _ h => h)
  cases d with
  | true => exact ha.run pins s1 σ H1 Q I1 q1
  | false => exact hb.run pins s1 σ H1 Q I1 q1
theorem snd_iteT {c a b : E} {x : Expr} (h : okE gi N sc (.ite c a b) x = true) (ihc : ∀ y, okE gi N sc c y = true → ST tabs X y (runE G c)) (iha : ∀ y, okE gi N sc a y = true → ST tabs X y (runE G a)) (ihb : ∀ y, okE gi N sc b y = true → ST tabs X y (runE G b)) : ST tabs X x (runE G (.ite c a b)) := fun B hB => by
  simp only [okE] at h
  cases e : asIf x with
  | none => rw [e] at h; cases h
  | some z =>
    obtain ⟨y, l, r⟩ := z
    rw [e] at h
    simp only [Bool.and_eq_true] at h
    obtain ⟨p, rfl⟩ := asIf_some e
    obtain ⟨⟨h1, h2⟩, h3⟩ := h
    refine (pt_ifExp (ihc y h1 B hB) (iha l h2 B hB) (ihb r h3 B hB)).imp fun σ H Q ⟨ρ, tt, vs, r, ρ', b', hR, hl, hF, hb, hQ⟩ => ?_
    simp only [runE] at hF
    obtain ⟨⟨rc, ρ1⟩, g1, hF⟩ := Res.bind_ok hF
    obtain ⟨t, g2, hF⟩ := Res.bind_ok hF
    refine ⟨ρ, tt, vs, rc, ρ1, t, hR, hl, g1, Res.of_ok g2, fun H1 R1 => ?_⟩
    have l1 : ρ1.length = σ.length := by have a := hR.len; have b := R1.len; simp at a b; omega
    cases t with
    | true =>
      simp only [if_true] at hF ⊢
      exact ⟨ρ1, tt, vs, r, ρ', b', R1, l1, hF, hb, hQ⟩
    | false =>
      simp only [Bool.false_eq_true, if_false] at hF ⊢
      exact ⟨ρ1, tt, vs, r, ρ', b', R1, l1, hF, hb, hQ⟩
/-- both, from the value alone -/
theorem IH.plain {e : E} (hp : ∀ {sc : Scope} {x : Expr}, okE gi N sc e x = true → plainTest x = true) (h : ∀ {sc ts : Scope} {k : Nat} {X : Cx}, XOk gi G tabs N sc ts k X → ∀ y, okE gi N sc e y = true → SE tabs X y (runE G e)) : IH gi G tabs N e :=
  ⟨h, fun o y hy => st_plain (hp hy) (h o y hy)⟩
theorem IH.both {e : E} (h : ∀ {sc ts : Scope} {k : Nat} {X : Cx}, XOk gi G tabs N sc ts k X → ∀ y, okE gi N sc e y = true → SE tabs X y (runE G e) ∧ ST tabs X y (runE G e)) : IH gi G tabs N e :=
  ⟨fun o y hy => (h o y hy).1, fun o y hy => (h o y hy).2⟩
theorem IH.two {e : E} (h : IH gi G tabs N e) (o : XOk gi G tabs N sc ts k X) : ∀ y, okE gi N sc e y = true → SE tabs X y (runE G e) ∧ ST tabs X y (runE G e) := fun y hy => ⟨h.se o y hy, h.st o y hy⟩
theorem pl_name {i : Nat} {x : Expr} (h : okV N sc i x = true) : plainTest x = true := by
  unfold okV at h
  cases e : asName x with
  | none => rw [e] at h; cases h
  | some y => obtain ⟨p, rfl⟩ := asName_some e; rfl
mutual
theorem allE {gi : GI} : ∀ e : E, IH gi G tabs N e
  | .nop => ⟨fun o y h B hB => ⟨fun pins s σ H Q I ⟨ρ, tt, vs, r, ρ', _, _, hF, _⟩ => by simp only [runE] at hF; cases hF⟩, fun o y h B hB => ⟨fun pins s σ H Q I ⟨ρ, tt, vs, r, ρ', b, _, _, hF, _⟩ => by simp only [runE] at hF; cases hF⟩⟩
  | .var i => IH.plain (fun h => pl_name (by simpa [okE] using h)) fun o y h => snd_var o (by simpa [okE] using h)
  | .cst d => IH.plain (fun {sc x} h => by
      simp only [okE] at h
      cases e : asConst x with
      | none => rw [e] at h; cases h
      | some y => obtain ⟨k, p, rfl⟩ := asConst_some e; rfl) fun o y h => snd_cst h
  | .glb g => IH.plain (fun {sc x} h => by
      simp only [okE] at h
      cases e : asName x with
      | none => rw [e] at h; cases h
      | some y => obtain ⟨p, rfl⟩ := asName_some e; rfl) fun o y h => snd_glb o h
  | .bin op a b => IH.plain (fun {sc x} h => by
      simp only [okE] at h
      cases e : asBin x with
      | none => rw [e] at h; cases h
      | some y => obtain ⟨_, _, _⟩ := y; obtain ⟨p, rfl⟩ := asBin_some e; rfl) fun o y h => snd_bin h ((allE a).se o) ((allE b).se o)
  | .neg a => IH.plain (fun {sc x} h => by
      simp only [okE] at h
      cases e : asUn x with
      | none => rw [e] at h; cases h
      | some y =>
        obtain ⟨oo, r⟩ := y
        rw [e] at h
        simp only [Bool.and_eq_true, decide_eq_true_eq] at h
        obtain ⟨p, rfl⟩ := asUn_some e
        obtain ⟨rfl, _⟩ := h
        rfl) fun o y h => snd_neg h ((allE a).se o)
  | .cmp op a b => IH.both fun o y h => snd_cmp o h ((allE a).se o) ((allE b).se o)
  | .chn op op' a b c => IH.both fun o y h => snd_chn o h ((allE a).se o) ((allE b).se o) ((allE c).se o)
  | .and a b => IH.both fun o y h => snd_and h ((allE a).two o) ((allE b).two o)
  | .or a b => IH.both fun o y h => snd_or h ((allE a).two o) ((allE b).two o)
  | .not a => IH.both fun o y h => snd_not h ((allE a).two o)
  | .ite c a b => IH.both fun o y h => ⟨snd_ite h ((allE c).two o) ((allE a).se o) ((allE b).se o), snd_iteT h ((allE c).st o) ((allE a).st o) ((allE b).st o)⟩
  | .tup es => IH.plain (fun {sc x} h => by
      simp only [okE] at h
      cases e : asTup x with
      | none => rw [e] at h; cases h
      | some y => obtain ⟨_, p, rfl⟩ := asTup_some e; rfl) fun o y h => snd_tup h (allEs es o)
  | .lst es => IH.plain (fun {sc x} h => by
      simp only [okE] at h
      cases e : asLst x with
      | none => rw [e] at h; cases h
      | some y => obtain ⟨p, rfl⟩ := asLst_some e; rfl) fun o y h => snd_lst h (allEs es o)
  | .idx a b => IH.plain (fun {sc x} h => by
      simp only [okE] at h
      cases e : asSub x with
      | none => rw [e] at h; cases h
      | some y => obtain ⟨_, _⟩ := y; obtain ⟨p, rfl, _⟩ := asSub_some e; rfl) fun o y h => snd_idx h ((allE a).se o) ((allE b).se o)
  | .idv i b => IH.plain (fun {sc x} h => by
      simp only [okE] at h
      cases e : asSub x with
      | none => rw [e] at h; cases h
      | some y => obtain ⟨_, _⟩ := y; obtain ⟨p, rfl, _⟩ := asSub_some e; rfl) fun o y h => snd_idv o h ((allE b).se o)
  | .sli a lo hi => IH.plain (fun {sc x} h => by
      simp only [okE] at h
      cases e : asSli x with
      | none => rw [e] at h; cases h
      | some y => obtain ⟨_, _, _⟩ := y; obtain ⟨p, p2, rfl⟩ := asSli_some e; rfl) fun o y h => snd_sli h ((allE a).se o) ((allE lo).se o) ((allE hi).se o)
  | .lenv i => IH.plain (fun {sc x} h => by
      simp only [okE] at h
      cases e : asCall x with
      | none => rw [e] at h; cases h
      | some y => obtain ⟨_, _⟩ := y; obtain ⟨p, p2, rfl⟩ := asCall_some e; rfl) fun o y h => snd_lenv o h
  | .inv op a i => IH.both fun o y h => snd_inv o h ((allE a).se o)
  | .cmv op i a => IH.both fun o y h => snd_cmv o h ((allE a).se o)
  | .bi b es => IH.plain (fun {sc x} h => by
      simp only [okE] at h
      cases e : asCall x with
      | none => rw [e] at h; cases h
      | some y => obtain ⟨_, _⟩ := y; obtain ⟨p, p2, rfl⟩ := asCall_some e; rfl) fun o y h => snd_bi o h (allEs es o)
  | .joi a b => IH.plain (fun {sc x} h => by
      simp only [okE] at h
      cases e : asMeth x with
      | none => rw [e] at h; cases h
      | some y => obtain ⟨_, _, _⟩ := y; obtain ⟨p, p2, rfl, _⟩ := asMeth_some e; rfl) fun o y h => snd_joi h ((allE a).se o) ((allE b).se o)
  | .cal f es => IH.plain (fun {sc x} h => by
      simp only [okE] at h
      cases e : asCall x with
      | none => rw [e] at h; cases h
      | some y => obtain ⟨_, _⟩ := y; obtain ⟨p, p2, rfl⟩ := asCall_some e; rfl) fun o y h => snd_cal o h (allEs es o)
  | .car f i es => IH.plain (fun {sc x} h => by
      simp only [okE] at h
      cases e : asCall x with
      | none => rw [e] at h; cases h
      | some y => obtain ⟨_, _⟩ := y; obtain ⟨p, p2, rfl⟩ := asCall_some e; rfl) fun o y h => snd_car o h (allEs es o)
  | .lc elt t it c => IH.plain (fun {sc x} h => by
      simp only [okE] at h
      cases e : asLC x with
      | none => rw [e] at h; cases h
      | some y => obtain ⟨p, e2⟩ := asLC_some e; rw [e2]; rfl) fun o y h => snd_lc o h (allI it) (allE c) (allE elt)
  | .lc2 elt t it c t' it' c' => IH.plain (fun {sc x} h => by
      simp only [okE] at h
      cases e : asLC2 x with
      | none => rw [e] at h; cases h
      | some y => obtain ⟨p, e2⟩ := asLC2_some e; rw [e2]; rfl) fun o y h => snd_lc2 o h (allI it) (allE c) (allI it') (allE c') (allE elt)
  | .gen k elt t it c => IH.plain (fun {sc x} h => by
      simp only [okE] at h
      split at h
      · rename_i f y e
        obtain ⟨p, pos, rfl⟩ := asCall_some e
        rfl
      · cases h) fun o y h => snd_gen o h (allI it) (allE c) (allE elt)
  | .srs elt t it c => IH.plain (fun {sc x} h => by
      simp only [okE] at h
      split at h
      · rename_i f y e
        obtain ⟨p, pos, rfl⟩ := asCall_some e
        rfl
      · cases h) fun o y h => snd_srs o h (allI it) (allE c) (allE elt)
theorem allI {gi : GI} : ∀ it : I, IHI gi G tabs N it
  | .frz e => fun o tg y h => snd_frz ((allE e).se o y (by simp only [okI, Bool.and_eq_true] at h; exact h.2))
  | .mov i => fun o tg y h => snd_mov o (by simpa [okI] using h)
  | .rng es => fun o tg y h => snd_rng o h (allEs es o)
  | .enm e => fun o tg y h => by simp [okI] at h
  | .zip a b => fun o tg y h => by simp [okI] at h
  | .rev e => fun o tg y h => snd_rev o h ((allE e).se o)
theorem allEs {gi : GI} : ∀ es : Es, IHs gi G tabs N es
  | .nil => fun o l h => by
    have : l = [] := by simpa [okEs] using h
    subst this
    exact snd_nil
  | .cons e es => fun o l h => by
    cases l with
    | nil => simp [okEs] at h
    | cons x l =>
      simp only [okEs, Bool.and_eq_true, Bool.not_eq_true'] at h
      exact snd_cons h.1.1 ((allE e).se o x h.1.2) (allEs es o l h.2)
end
end
end Gw

set_option Elab.async false
set_option linter.all false
set_option maxRecDepth 100000
set_option maxHeartbeats 2000000
/-! The value layer, part 15: statements. -/
namespace Gw
open PySem L2

/-! ### shapes -/
def asAsg : Stmt → Option (Expr × Expr × Pos)
  | .Assign [t] v p => some (t, v, p)
  | _ => none
theorem asAsg_some {s : Stmt} {t v : Expr} {p : Pos} (h : asAsg s = some (t, v, p)) : s = .Assign [t] v p := by
  cases s with
  | Assign ts v' p' =>
    match ts, h with
    | [t'], h => cases h; rfl
  | _ => simp [asAsg] at h
def asAug : Stmt → Option (Expr × Operator × Expr)
  | .AugAssign t o v _ => some (t, o, v)
  | _ => none
theorem asAug_some {s : Stmt} {t v : Expr} {o : Operator} (h : asAug s = some (t, o, v)) : ∃ p, s = .AugAssign t o v p := by
  cases s <;> simp [asAug] at h
  obtain ⟨rfl, rfl, rfl⟩ := h; exact ⟨_, rfl⟩
def asExp : Stmt → Option Expr
  | .Expr v _ => some v
  | _ => none
theorem asExp_some {s : Stmt} {v : Expr} (h : asExp s = some v) : ∃ p, s = .Expr v p := by
  cases s <;> simp [asExp] at h
  subst h; exact ⟨_, rfl⟩
def asRet : Stmt → Option Expr
  | .Return (some v) _ => some v
  | _ => none
theorem asRet_some {s : Stmt} {v : Expr} (h : asRet s = some v) : ∃ p, s = .Return (some v) p := by
  cases s with
  | Return o p =>
    match o, h with
    | some v', h => cases h; exact ⟨_, rfl⟩
  | _ => simp [asRet] at h
def asIfS : Stmt → Option (Expr × List Stmt × List Stmt)
  | .If c a b _ => some (c, a, b)
  | _ => none
theorem asIfS_some {s : Stmt} {c : Expr} {a b : List Stmt} (h : asIfS s = some (c, a, b)) : ∃ p, s = .If c a b p := by
  cases s <;> simp [asIfS] at h
  obtain ⟨rfl, rfl, rfl⟩ := h; exact ⟨_, rfl⟩
def asFor : Stmt → Option (Expr × Expr × List Stmt)
  | .For t i b [] _ => some (t, i, b)
  | _ => none
theorem asFor_some {s : Stmt} {t i : Expr} {b : List Stmt} (h : asFor s = some (t, i, b)) : ∃ p, s = .For t i b [] p := by
  cases s with
  | For t' i' b' o p =>
    match o, h with
    | [], h => cases h; exact ⟨_, rfl⟩
  | _ => simp [asFor] at h
def asWhl : Stmt → Option (Expr × List Stmt)
  | .While c b [] _ => some (c, b)
  | _ => none
theorem asWhl_some {s : Stmt} {c : Expr} {b : List Stmt} (h : asWhl s = some (c, b)) : ∃ p, s = .While c b [] p := by
  cases s with
  | While c' b' o p =>
    match o, h with
    | [], h => cases h; exact ⟨_, rfl⟩
  | _ => simp [asWhl] at h
def isBrk : Stmt → Bool
  | .Break _ => true
  | _ => false
def isCnt : Stmt → Bool
  | .Continue _ => true
  | _ => false
def isPas : Stmt → Bool
  | .Pass _ => true
  | _ => false
def namePos : Expr → Option (Str × Pos)
  | .Name x p => some (x, p)
  | _ => none
theorem namePos_some {e : Expr} {x : Str} {p : Pos} (h : namePos e = some (x, p)) : e = .Name x p := by
  cases e <;> simp [namePos] at h
  obtain ⟨rfl, rfl⟩ := h; rfl
def isLocal (sc : Scope) (x : Str) : Bool := match sc.names.lookup x with
  | some .local => true
  | _ => false
theorem isLocal_iff {sc : Scope} {x : Str} (h : isLocal sc x = true) : sc.names.lookup x = some .local := by
  unfold isLocal at h
  split at h
  · assumption
  · cases h
def compScope : Expr → Option Scope
  | .ListComp _ _ s _ => some s
  | .SetComp _ _ s _ => some s
  | .DictComp _ _ _ s _ => some s
  | _ => none
def swB (sc : Scope) (v : Expr) (y : Str) (py : Pos) : Bool := match compScope v with
  | some s => isLocal sc y && py.line == v.pos.line && !(s.names.any fun p => p.1 == y && (p.2 == .local || p.2 == .cell))
  | none => false
theorem swB_ok {env : PySem.Env} {v : Expr} {y : Str} {py : Pos} {l : Nat} (hk : env.scope.kind = .function) : swapsWith v (some (.Name y py)) l env = pure (swB env.scope v y py) := by
  have hb : env.blockKind = .function := by unfold Env.blockKind; rw [hk]; rfl
  have hl : (env.kindOf y == some .local) = isLocal env.scope y := by
    show (env.scope.names.lookup y == some .local) = _
    unfold isLocal
    cases e : env.scope.names.lookup y with
    | none => rfl
    | some q => cases q <;> rfl
  unfold swapsWith swB
  cases v <;> simp only [compScope, hb, hl] <;> rfl
def swNm (sc : Scope) (line : Nat) : Expr → Option Str
  | .Name id pos => if isLocal sc id && pos.line == line then some id else none
  | _ => none
def swapB (sc : Scope) (tg value : Expr) : Option (Option (List Str)) := match asTup tg, asTup value with
  | some ts, some vs =>
    if !(ts.length == 2 || ts.length == 3) || vs.length != ts.length then some none else
    if vs.any isStar then some none else
    if (ts.filterMap (swNm sc ((ts.head?.map (·.pos.line)).getD 0))).length != ts.length || (ts.filterMap (swNm sc ((ts.head?.map (·.pos.line)).getD 0))).eraseDups.length != (ts.filterMap (swNm sc ((ts.head?.map (·.pos.line)).getD 0))).length then some none else
    if vs.all (foldedForSure 8) then some none else
    if vs.all (constantsAlone 8) then none else some (some (ts.filterMap (swNm sc ((ts.head?.map (·.pos.line)).getD 0))))
  | some _, none => some none
  | none, _ => none
theorem swapB_ok {env : PySem.Env} {tg v : Expr} {r : Option (List Str)} (hk : env.scope.kind = .function) (h : swapB env.scope tg v = some r) : swappedStores [tg] v env = pure r := by
  have hb : env.blockKind = .function := by unfold Env.blockKind; rw [hk]; rfl
  unfold swapB at h
  cases e1 : asTup tg with
  | none => rw [e1] at h; cases h
  | some ts =>
    obtain ⟨k1, p1, rfl⟩ := asTup_some e1
    cases e2 : asTup v with
    | none =>
      rw [e1, e2] at h
      cases h
      cases v <;> first | rfl | (simp [asTup] at e2)
    | some vs =>
      obtain ⟨k2, p2, rfl⟩ := asTup_some e2
      rw [e1, e2] at h
      have hn : (fun x : Expr => match x with | .Name id pos => if env.kindOf id == some .local && pos.line == (ts.head?.map (·.pos.line)).getD 0 then some id else none | _ => none) = swNm env.scope ((ts.head?.map (·.pos.line)).getD 0) := by
        funext x
        cases x with
        | Name id pos =>
          have hl : (env.kindOf id == some .local) = isLocal env.scope id := by
            show (env.scope.names.lookup id == some .local) = _
            unfold isLocal
            cases e : env.scope.names.lookup id with
            | none => rfl
            | some q => cases q <;> rfl
          simp only [swNm, hl]
        | _ => rfl
      have hst : (fun x : Expr => match x with | .Starred .. => true | _ => false) = isStar := by
        funext x; cases x <;> rfl
      simp only [] at h
      show (if (!(ts.length == 2 || ts.length == 3) || vs.length != ts.length || env.blockKind != .function) = true then (pure none : Sem (Option (List Str))) else if (vs.any fun x => match x with | .Starred .. => true | _ => false) = true then pure none else _) = _
      rw [hst, hb]
      by_cases c1 : (!(ts.length == 2 || ts.length == 3) || vs.length != ts.length) = true
      · rw [if_pos c1] at h
        cases h
        rw [if_pos (by rw [c1]; rfl)]
      · rw [if_neg c1] at h
        rw [if_neg (by intro z; apply c1; simpa using z)]
        by_cases c2 : vs.any isStar = true
        · rw [if_pos c2] at h
          cases h
          rw [if_pos c2]
        · rw [if_neg c2] at h
          rw [if_neg c2]
          obtain ⟨f, hf⟩ : ∃ f : Expr → Option Str, f = (fun x : Expr => match x with | .Name id pos => if env.kindOf id == some .local && pos.line == (ts.head?.map (·.pos.line)).getD 0 then some id else none | _ => none) := ⟨_, rfl⟩
          have goal : (if ((ts.filterMap f).length != ts.length || (ts.filterMap f).eraseDups.length != (ts.filterMap f).length) = true then (pure none : Sem (Option (List Str))) else if vs.all (foldedForSure 8) = true then pure none else (if vs.all (constantsAlone 8) = true then (do let _ ← unsupported (α := Unit) "assign.tuple-of-constant-expressions:order-of-the-stores"; pure (some (ts.filterMap f))) else pure (some (ts.filterMap f)))) = pure r := by
            rw [hf, hn]
            split at h
            · rename_i c3
              cases h
              rw [if_pos c3]
            · rename_i c3
              rw [if_neg c3]
              split at h
              · rename_i c4
                cases h
                rw [if_pos c4]
              · rename_i c4
                rw [if_neg c4]
                split at h
                · cases h
                · rename_i c5
                  cases h
                  rw [if_neg c5]
          rw [hf] at goal
          exact goal
end Gw

set_option Elab.async false
set_option linter.all false
set_option maxRecDepth 100000
set_option maxHeartbeats 4000000
/-! The value layer, part 16: statements run as the small syntax says. -/
namespace Gw
open PySem L2

mutual
def okS (gi : GI) (N : List Str) (sc : Scope) : S → Stmt → Bool
  | .asg i e, st => match asAsg st with
    | some (t, v, _) => match namePos t with
      | some (y, py) => decide (N[i]? = some y) && isLoc sc y && okE gi N sc e v && (match e with
          | .lc _ _ _ _ => true
          | .lc2 _ _ _ _ _ _ _ => true
          | _ => !swB sc v y py)
      | none => false
    | none => false
  | .par is es, st => match asAsg st with
    | some (t, v, _) => match asTup t, asTup v, swapB sc t v with
      | some ts, some vs, some (some nms) => decide (is.map (fun i => N[i]?) = nms.map some) && decide (ts.map asName = nms.map some) && decide is.Nodup && decide (vs.length = is.length) && (decide (is.length = 2) || decide (is.length = 3)) && nms.all (isLocal sc) && okEs gi N sc es vs
      | _, _, _ => false
    | none => false
  | .unp t e, st => match asAsg st with
    | some (tg, v, _) => (asTup tg).isSome && okT N sc t tg && okE gi N sc e v && decide (swapB sc tg v = some none)
    | none => false
  | .aug i op e, st => match asAug st with
    | some (t, o, v) => match asName t with
      | some y => decide (N[i]? = some y) && isLoc sc y && decide (o = bopP op) && okE gi N sc e v
      | none => false
    | none => false
  | .set i k e, st => match asAsg st with
    | some (t, v, _) => match asSub t with
      | some (o, x) => okV N sc i o && okE gi N sc k x && okE gi N sc e v
      | none => false
    | none => false
  | .exp e, st => match asExp st with
    | some x => isCallE x && okE gi N sc e x
    | none => false
  | .app i e, st => match asExp st with
    | some x => match asMeth x with
      | some (o, m, [y]) => decide (m = ("append" : Str)) && okV N sc i o && !isStar y && okE gi N sc e y
      | _ => false
    | none => false
  | .ret e, st => match asRet st with
    | some x => okE gi N sc e x
    | none => false
  | .ife c a b, st => match asIfS st with
    | some (x, l, r) => okE gi N sc c x && okSs gi N sc a l && okSs gi N sc b r
    | none => false
  | .fors t it b, st => match asFor st with
    | some (tg, x, l) => okI gi N sc it x tg && okT N sc t tg && okSs gi N sc b l
    | none => false
  | .whl _ c b, st => match asWhl st with
    | some (x, l) => okE gi N sc c x && okSs gi N sc b l
    | none => false
  | .brk, st => isBrk st
  | .cont, st => isCnt st
  | .pass, st => isPas st
  | .bad, _ => true
def okSs (gi : GI) (N : List Str) (sc : Scope) : Ss → List Stmt → Bool
  | .nil, l => l.isEmpty
  | .cons s ss, l => match l with
    | x :: r => okS gi N sc s x && okSs gi N sc ss r
    | [] => false
end

def EndsOk (K : PySem.W.Frag) (B : Bs) (D : Ends) (ts : List Sl) (vs : List (Option V)) : Fl → Prop
  | .nx ρ' => ∀ σ' H', ρ'.length = List.length σ' → R K B (ρ' ++ ts) (σ' ++ vs) H' → D.nx σ' H'
  | .bk ρ' => ∀ σ' H', ρ'.length = List.length σ' → R K B (ρ' ++ ts) (σ' ++ vs) H' → D.bk σ' H'
  | .ct ρ' => ∀ σ' H', ρ'.length = List.length σ' → R K B (ρ' ++ ts) (σ' ++ vs) H' → D.ct σ' H'
  | .rt r ρ' => ∀ σ' v H', ρ'.length = List.length σ' → R K B (ρ' ++ ts ++ [r.sl]) (σ' ++ vs ++ [some v]) H' → D.rt v H'
def tSt (K : PySem.W.Frag) (B : Bs) (F : Env → Res Fl) : TS := fun D σ H => ∃ (ρ : Env) (ts : List Sl) (vs : List (Option V)) (fl : Fl), R K B (ρ ++ ts) (σ ++ vs) H ∧ ρ.length = σ.length ∧ F ρ = .ok fl ∧ EndsOk K B D ts vs fl
def SS (tabs : List Addr) (X : Cx) (st : Stmt) (F : Env → Res Fl) : Prop := ∀ B : Bs, B.tabs = tabs → PS X st (tSt X.K B F)
def SSs (tabs : List Addr) (X : Cx) (st : List Stmt) (F : Env → Res Fl) : Prop := ∀ B : Bs, B.tabs = tabs → PSs X st (tSt X.K B F)
structure SOk (gi : GI) (G : Glo) (tabs : List Addr) (N : List Str) (sc : Scope) (k : Nat) (X : Cx) : Prop where
  x : XOk gi G tabs N sc sc k X
  kind : sc.kind = .function
  hp : PassesOwn (model X.prog X.w) X.A X.env X.xe

section
variable {K : PySem.W.Frag} {B : Bs} {ρ : Env} {ts uu : List Sl} {σ vs ws : List (Option V)} {H : Hp}
theorem R.storeMid {i : Nat} {s : Sl} {v : Option V} (r : R K B (ρ ++ ts ++ [s] ++ uu) (σ ++ vs ++ [v] ++ ws) H) (hl : ρ.length = σ.length) (ht : ts.length = vs.length) (hi : i < ρ.length) (hn : ∀ e, ρ.at i ≠ .ref e) (hs : ∀ d, s ≠ .ref d) (hu : ∀ t ∈ uu, ∀ d, t ≠ .ref d) :
    R K B (ρ.set i s ++ ts ++ uu) (σ.set i v ++ vs ++ ws) H := by
  have hw : uu.length = ws.length := by have := r.len; simp at this; omega
  let n := ρ.length + ts.length
  have e1 : ∀ {α : Type} {a b c : List α} {x : α} {j : Nat}, (a ++ b).length = n → j < n → (a ++ b ++ [x] ++ c)[j]? = (a ++ b)[j]? := fun {α a b c x j} h1 h2 => by
    rw [List.append_assoc, List.getElem?_append_left (by omega)]
  have e2 : ∀ {α : Type} {a b c : List α} {x : α}, (a ++ b).length = n → (a ++ b ++ [x] ++ c)[n]? = some x := fun {α a b c x} h1 => by
    rw [List.getElem?_append_left (by simp at h1 ⊢; omega), ← h1]; exact getEnd _ _
  have e3 : ∀ {α : Type} {a b c : List α} {x : α} {j : Nat}, (a ++ b).length = n → n ≤ j → (a ++ b ++ [x] ++ c)[j + 1]? = c[j - n]? := fun {α a b c x j} h1 h2 => by
    rw [List.getElem?_append_right (by simp at h1 ⊢; omega)]
    congr 1
    simp at h1 ⊢; omega
  have ln1 : (ρ ++ ts).length = n := by simp [n]
  have ln2 : (σ ++ vs).length = n := by simp [n]; omega
  refine r.sel (fun j => if j = i then n else if j < n then j else j + 1) (by simp; omega) (fun j t h => .inr ?_) (fun a b s1 t1 h1 h2 o1 o2 e => ?_) (fun j d h => ?_) fun j d h => ?_
  · rcases getA h with ⟨hj, h1⟩ | ⟨hj, h1⟩
    · have hj' : j < n := by simpa [n] using hj
      rw [← set_left hi] at h1
      rcases getSet h1 with ⟨rfl, rfl⟩ | ⟨ne, h1⟩
      · rw [if_pos rfl, e2 ln1, e2 ln2]
        refine ⟨rfl, ?_⟩
        rw [List.append_assoc, List.getElem?_append_left (by simp; omega), List.getElem?_set_self (by omega)]
      · rw [if_neg ne, if_pos hj', e1 ln1 hj', e1 ln2 hj']
        refine ⟨h1, ?_⟩
        rw [List.getElem?_append_left (by simp; omega), ← set_left (by omega), List.getElem?_set_ne (Ne.symm ne)]
    · have hj' : n ≤ j := by simpa [n] using hj
      have hni : j ≠ i := by omega
      rw [if_neg hni, if_neg (by omega), e3 ln1 hj', e3 ln2 hj']
      have q1 : (ρ.set i s ++ ts).length = n := by simp [n]
      have q2 : (σ.set i v ++ vs).length = n := by simp [n]; omega
      rw [q1] at h1
      refine ⟨h1, ?_⟩
      rw [List.getElem?_append_right (by omega), q2]
  · have hin : i < n := by omega
    by_cases ha : a = i <;> by_cases hb : b = i <;> simp only [ha, hb, if_true, if_false] at e ⊢
    · split at e <;> omega
    · split at e <;> omega
    · split at e <;> split at e <;> omega
  · rcases getA h with ⟨hj, h1⟩ | ⟨hj, h1⟩
    · rw [← set_left hi] at h1
      rcases getSet h1 with ⟨rfl, e⟩ | ⟨ne, h1⟩
      · exact (hs d e.symm).elim
      · have hj' : j < n := by simpa [n] using hj
        rw [if_neg ne, if_pos hj']
    · exact (hu _ (List.mem_of_getElem? h1) d rfl).elim
  · rw [List.append_assoc] at h
    rcases getA h with ⟨hj, h1⟩ | ⟨hj, h1⟩
    · refine getL ?_
      rw [← set_left hi]
      by_cases e : i = j
      · subst e
        rw [get_left hi, at_get hi] at h1
        exact (hn d (Option.some.inj h1)).elim
      · rw [List.getElem?_set_ne e]; exact h1
    · rcases getA h1 with ⟨hj2, h2⟩ | ⟨hj2, h2⟩
      · have := List.mem_of_getElem? h2
        simp at this
        exact (hs d this.symm).elim
      · exact (hu _ (List.mem_of_getElem? h2) d rfl).elim
def setV : List Nat → List V → List (Option V) → List (Option V)
  | i :: is, v :: vs, σ => setV is vs (σ.set i (some v))
  | _, _, σ => σ
theorem R.storeAll : ∀ {is : List Nat} {rs : List Rv} {us : List V} {ρ ρ' : Env} {σ : List (Option V)}, setAll is rs ρ = some ρ' → R K B (ρ ++ ts ++ rs.map Rv.sl) (σ ++ vs ++ us.map some) H → ρ.length = σ.length → ts.length = vs.length → (∀ i ∈ is, i < ρ.length) → us.length = rs.length →
    R K B (ρ' ++ ts) (setV is us σ ++ vs) H ∧ ρ'.length = (setV is us σ).length
  | [], [], us, ρ, ρ', σ, h, r, hl, ht, hi, hu => by
    have : us = [] := by simpa using hu
    subst this
    simp only [setAll] at h
    cases h
    refine ⟨?_, hl⟩
    show R K B (ρ ++ ts) (σ ++ vs) H
    simpa using r
  | [], _ :: _, _, _, _, _, h, _, _, _, _, _ => by simp [setAll] at h
  | _ :: _, [], _, _, _, _, h, _, _, _, _, _ => by simp [setAll] at h
  | i :: is, x :: rs, [], _, _, _, h, _, _, _, _, hu => by simp at hu
  | i :: is, x :: rs, u :: us, ρ, ρ', σ, h, r, hl, ht, hi, hu => by
    simp only [setAll] at h
    split at h
    · cases h
    · rename_i ρ9 hput
      obtain ⟨hn, rfl⟩ := R.put_ok (ts := ts ++ (x :: rs).map Rv.sl) (by simpa using r) hput
      have r' : R K B (ρ ++ ts ++ [x.sl] ++ rs.map Rv.sl) (σ ++ vs ++ [some u] ++ us.map some) H := by simpa using r
      have q := r'.storeMid (i := i) hl ht (hi i List.mem_cons_self) (fun e z => hn e z) (fun d => x.noref d) (fun t ht d => by
        obtain ⟨y, _, rfl⟩ := List.mem_map.mp ht
        exact y.noref d)
      exact R.storeAll (is := is) (rs := rs) (us := us) h q (by simp [hl]) ht (fun j hj => by rw [List.length_set]; exact hi j (List.mem_cons_of_mem _ hj)) (by simpa using hu)
end
section
variable {gi : GI} {G : Glo} {tabs : List Addr} {N : List Str} {sc : Scope} {k : Nat} {X : Cx}
theorem set_len {ρ ρ' : Env} {ts : List Sl} {vs σ σ' : List (Option V)} {H H' : Hp} {K : PySem.W.Frag} {B : Bs} (r : R K B (ρ ++ ts) (σ ++ vs) H) (r' : R K B (ρ' ++ ts) (σ' ++ vs) H') (h : ρ.length = σ.length) : ρ'.length = σ'.length := by
  have a := r.len; have b := r'.len; simp at a b; omega
theorem asg_read {B : Bs} {F : Env → Res (Rv × Env)} {i : Nat} {D : Ends} {σ : L2.St} {H : Hp} (hi : i < N.length) (hN : ∀ ρ : Env, ρ.length = σ.length → i < ρ.length)
    (h : tSt X.K B (fun ρ => (F ρ).bind fun p => (Res.of (p.2.put i p.1.sl)).bind fun ρ' => .ok (.nx ρ')) D σ H) : tAsg (tE X.K B F) (gName i) D σ H := by
  obtain ⟨ρ, tt, vs, fl, hR, hl, hF, hE⟩ := h
  obtain ⟨⟨r, ρ1⟩, g1, hF⟩ := Res.bind_ok hF
  refine ⟨ρ, tt, vs, r, ρ1, hR, hl, g1, fun v H1 R1 => ?_⟩
  have l1 : ρ1.length = σ.length := by have a := hR.len; have b := R1.len; simp at a b; omega
  simp only at hF
  obtain ⟨ρ9, hput, hF⟩ := Res.bind_ok hF
  cases hF
  obtain ⟨hn, rfl⟩ := R.put_ok (ts := tt ++ [r.sl]) (by simpa using R1) (Res.of_ok hput)
  have q := R1.store (i := i) (t := ρ1.at i) (fun d => r.noref d) (getL (at_get (hN ρ1 l1))) (fun d e => hn d e)
  rw [set_left (hN ρ1 l1), set_left (by rw [← l1]; exact hN ρ1 l1)] at q
  exact hE _ H1 (by simp [l1]) q
/-- += and -= -/
def ipD (K : PySem.W.Frag) (op : Bop) : TIp := fun x y H Q => ∃ (B : Bs) (ss : List Sl) (vs : List (Option V)) (d e r : D), R K B ss vs H ∧ Rp K (Mt B.Z ss vs) H x d ∧ Rp K (Mt B.Z ss vs) H y e ∧ dAug op d e = some r ∧ ∀ u H', R K B (ss ++ [.val r]) (vs ++ [some u]) H' → Q u H'
theorem ipd (op : Bop) : PIp X (bopP op) (ipD X.K op) := by
  intro pins s σ H x y v u Q I rx ry h
  obtain ⟨B, ss, vs, d, e, r, hR, hx, hy, hd, hQ⟩ := h
  cases op with
  | add =>
    cases d <;> cases e <;> simp only [dAug] at hd <;> first | (cases hd; done) | skip
    · cases hd
      exact in_add pins s σ H x y v u Q I rx ry ⟨_, _, hx.intV, hy.intV, hQ _ H (hR.push_val (.int _))⟩
    · rename_i a b
      by_cases hz : lineOk (a.length + b.length) = true
      · rw [if_pos hz] at hd
        cases hd
        refine in_addS pins s σ H x y v u Q I rx ry ⟨_, _, hx.strV, hy.strV, by rw [mkS_len, mkS_len]; exact lineOk_iff hz, ?_⟩
        rw [mkS_app]
        exact hQ _ H (hR.push_val (.str _))
      · rw [if_neg hz] at hd; cases hd
  | sub =>
    cases d <;> cases e <;> simp only [dAug] at hd <;> first | (cases hd; done) | skip
    cases hd
    exact in_sub pins s σ H x y v u Q I rx ry ⟨_, _, hx.intV, hy.intV, hQ _ H (hR.push_val (.int _))⟩
  | _ => cases d <;> cases e <;> simp [dAug] at hd

/-! ### one by one -/
theorem len2 {α : Type} {l : List α} (h : l.length = 2) : ∃ a b, l = [a, b] := by
  match l, h with
  | [a, b], _ => exact ⟨a, b, rfl⟩
theorem len3 {α : Type} {l : List α} (h : l.length = 3) : ∃ a b c, l = [a, b, c] := by
  match l, h with
  | [a, b, c], _ => exact ⟨a, b, c, rfl⟩
theorem SOk.lt (o : SOk gi G tabs N sc k X) {i : Nat} {y : Str} (h : N[i]? = some y) {pins : List (Addr × Obj)} {s : Shared} {σ : L2.St} {H : Hp} (I : L2.Inv X pins σ H s) : ∀ ρ : Env, ρ.length = σ.length → i < ρ.length := fun ρ hl => by
  rw [hl, I.len, o.x.hN]; exact lt_of_get h
theorem sst_asg (o : SOk gi G tabs N sc k X) {i : Nat} {e : E} {st : Stmt} (h : okS gi N sc (.asg i e) st = true) : SS tabs X st (runS G (.asg i e)) := fun B hB => by
  simp only [okS] at h
  cases e1 : asAsg st with
  | none => rw [e1] at h; cases h
  | some z =>
    obtain ⟨t, v, p⟩ := z
    rw [e1] at h
    cases asAsg_some e1
    cases e2 : namePos t with
    | none => simp only [e2] at h; cases h
    | some w =>
      obtain ⟨y, py⟩ := w
      simp only [e2] at h
      cases namePos_some e2
      simp only [Bool.and_eq_true, decide_eq_true_eq] at h
      obtain ⟨⟨⟨h1, h2⟩, h3⟩, h4⟩ := h
      have hk : X.env.scope.kind = .function := by rw [o.x.sc]; exact o.kind
      have sw := swB_ok (v := v) (y := y) (py := py) (l := p.line) hk
      obtain ⟨f1, f2⟩ := o.x.fnm y h2
      have rd : ∀ D σ H, (∀ ρ : Env, ρ.length = σ.length → i < ρ.length) → tSt X.K B (runS G (.asg i e)) D σ H → tAsg (tE X.K B (runE G e)) (gName i) D σ H := fun D σ H hi hq => asg_read (N := N) (lt_of_get h1) hi (by
        obtain ⟨ρ, tt, vs, fl, a1, a2, a3, a4⟩ := hq
        refine ⟨ρ, tt, vs, fl, a1, a2, ?_, a4⟩
        simp only [runS] at a3
        exact a3)
      have fin : PS X (.Assign [.Name y py] v p) (tAsg (tE X.K B (runE G e)) (gName i)) → PS X (.Assign [.Name y py] v p) (tSt X.K B (runS G (.asg i e))) := fun q =>
        ⟨fun pins s σ H D I hq => q.run pins s σ H D I (rd D σ H (o.lt h1 I) hq)⟩
      by_cases hs : swB X.env.scope v y py = true
      · rw [hs] at sw
        have hl : sc.names.lookup y = some .local := by
          unfold swB at hs
          split at hs
          · simp only [Bool.and_eq_true] at hs
            have := isLocal_iff hs.1.1
            rw [o.x.sc] at this; exact this
          · cases hs
        rw [o.x.sc] at hs
        cases e with
        | lc elt t it c => exact fin (snd_setLc o.x h3 (allI it) (allE c) (allE elt) h1 hl sw B hB)
        | lc2 elt t it c t' it' c' => exact fin (snd_setLc2 o.x h3 (allI it) (allE c) (allI it') (allE c') (allE elt) h1 hl sw B hB)
        | _ => simp [hs] at h4
      · have hs' : swB X.env.scope v y py = false := by simpa using hs
        rw [hs'] at sw
        exact fin (ps_set (by rw [o.x.hN]; exact o.x.nd) (by rw [o.x.hN]; exact h1) f1 ((allE e).se o.x v h3 B hB) sw f2)
theorem sst_par (o : SOk gi G tabs N sc k X) {is : List Nat} {es : Es} {st : Stmt} (h : okS gi N sc (.par is es) st = true) : SS tabs X st (runS G (.par is es)) := fun B hB => by
  simp only [okS] at h
  cases e1 : asAsg st with
  | none => rw [e1] at h; cases h
  | some z =>
    obtain ⟨t, v, p⟩ := z
    rw [e1] at h
    cases asAsg_some e1
    simp only at h
    split at h
    · rename_i ts vs nms q1 q2 q3
      simp only [Bool.and_eq_true, decide_eq_true_eq, Bool.or_eq_true] at h
      obtain ⟨⟨⟨⟨⟨⟨h1, h2⟩, h3⟩, h4⟩, h5⟩, h6⟩, h7⟩ := h
      have hk : X.env.scope.kind = .function := by rw [o.x.sc]; exact o.kind
      rw [← o.x.sc] at q3
      have sw := swapB_ok hk q3
      obtain ⟨k1, p1, rfl⟩ := asTup_some q1
      obtain ⟨k2, p2, rfl⟩ := asTup_some q2
      have nd : X.N.Nodup := by rw [o.x.hN]; exact o.x.nd
      have lc : ∀ x ∈ nms, X.env.scope.names.lookup x = some .local := fun x hx => by
        rw [o.x.sc]; exact isLocal_iff (List.all_eq_true.mp h6 x hx)
      have rd : ∀ D σ H (Q : List V → Hp → Prop), tSt X.K B (runS G (.par is es)) D σ H → (∀ ρ : Env, ρ.length = σ.length → ∀ i ∈ is, i < ρ.length) → (∀ us H', us.length = vs.length → D.nx (setV is us σ) H' → Q us H') → tAs X.K B (runEs G es) σ H Q := fun D σ H Q hq hi hQ => by
        obtain ⟨ρ, tt, ws, fl, a1, a2, a3, a4⟩ := hq
        simp only [runS] at a3
        obtain ⟨⟨rs, ρ1⟩, g1, a3⟩ := Res.bind_ok a3
        obtain ⟨ρ2, g2, a3⟩ := Res.bind_ok a3
        cases a3
        refine ⟨ρ, tt, ws, rs, ρ1, a1, a2, g1, fun us H1 hu R1 => ?_⟩
        have l1 : ρ1.length = σ.length := by have a := a1.len; have b := R1.len; simp at a b; omega
        have lt : tt.length = ws.length := by have a := a1.len; simp at a; omega
        obtain ⟨q, q'⟩ := R1.storeAll (is := is) (Res.of_ok g2) l1 lt (hi ρ1 l1) hu
        exact hQ us H1 (by rw [hu, runEs_len g1 h7]) (a4 _ H1 q' q)
      have lti : ∀ (pins : List (Addr × Obj)) (s : Shared) (σ : L2.St) (H : Hp), L2.Inv X pins σ H s → ∀ ρ : Env, ρ.length = σ.length → ∀ i ∈ is, i < ρ.length := fun _ _ _ _ I ρ hl i hi => by
        have : N[i]? ∈ is.map (fun i => N[i]?) := List.mem_map.mpr ⟨i, hi, rfl⟩
        rw [h1] at this
        obtain ⟨y, _, hy⟩ := List.mem_map.mp this
        exact o.lt hy.symm I ρ hl
      rcases h5 with h5 | h5
      · have ln : nms.length = 2 := by have := congrArg List.length h1; simp at this; omega
        have lt' : ts.length = 2 := by have := congrArg List.length h2; simp at this; omega
        obtain ⟨i, j, rfl⟩ := len2 h5
        obtain ⟨x, y, rfl⟩ := len2 ln
        obtain ⟨t1, t2, rfl⟩ := len2 lt'
        obtain ⟨a, b, rfl⟩ := len2 (h4.trans h5)
        simp only [List.map_cons, List.map_nil, List.cons.injEq, and_true] at h1 h2
        obtain ⟨pa, rfl⟩ := asName_some h2.1
        obtain ⟨pb, rfl⟩ := asName_some h2.2
        have hij : i ≠ j := by simpa using h3
        refine ⟨fun pins s σ H D I hq => (ps_par o.x.calm nd (by rw [o.x.hN]; exact h1.1) (by rw [o.x.hN]; exact h1.2) hij (lc x (by simp)) (lc y (by simp)) (allEs es o.x [a, b] h7 B hB) sw).run pins s σ H D I (rd D σ H _ hq (lti _ _ _ _ I) fun us H' hu hn => ?_)⟩
        obtain ⟨v, w, rfl⟩ := len2 hu
        exact ⟨v, w, rfl, hn⟩
      · have ln : nms.length = 3 := by have := congrArg List.length h1; simp at this; omega
        have lt' : ts.length = 3 := by have := congrArg List.length h2; simp at this; omega
        obtain ⟨i, j, l, rfl⟩ := len3 h5
        obtain ⟨x, y, z, rfl⟩ := len3 ln
        obtain ⟨t1, t2, t3, rfl⟩ := len3 lt'
        obtain ⟨a, b, c, rfl⟩ := len3 (h4.trans h5)
        simp only [List.map_cons, List.map_nil, List.cons.injEq, and_true] at h1 h2
        obtain ⟨pa, rfl⟩ := asName_some h2.1
        obtain ⟨pb, rfl⟩ := asName_some h2.2.1
        obtain ⟨pc, rfl⟩ := asName_some h2.2.2
        have hij : (i ≠ j ∧ i ≠ l) ∧ j ≠ l := by simpa using h3
        refine ⟨fun pins s σ H D I hq => (ps_par3 o.x.calm nd (by rw [o.x.hN]; exact h1.1) (by rw [o.x.hN]; exact h1.2.1) (by rw [o.x.hN]; exact h1.2.2) hij.1.1 hij.1.2 hij.2 (lc x (by simp)) (lc y (by simp)) (lc z (by simp)) (allEs es o.x [a, b, c] h7 B hB) sw).run pins s σ H D I (rd D σ H _ hq (lti _ _ _ _ I) fun us H' hu hn => ?_)⟩
        obtain ⟨v, w, u, rfl⟩ := len3 hu
        exact ⟨v, w, u, rfl, hn⟩
    · cases h
theorem sst_unp (o : SOk gi G tabs N sc k X) {t : T} {e : E} {st : Stmt} (h : okS gi N sc (.unp t e) st = true) : SS tabs X st (runS G (.unp t e)) := fun B hB => by
  simp only [okS] at h
  cases e1 : asAsg st with
  | none => rw [e1] at h; cases h
  | some z =>
    obtain ⟨tg, v, p⟩ := z
    rw [e1] at h
    cases asAsg_some e1
    simp only [Bool.and_eq_true, decide_eq_true_eq] at h
    obtain ⟨⟨⟨h1, h2⟩, h3⟩, h4⟩ := h
    have hk : X.env.scope.kind = .function := by rw [o.x.sc]; exact o.kind
    rw [← o.x.sc] at h4
    have sw := swapB_ok hk h4
    cases e2 : asTup tg with
    | none => rw [e2] at h1; cases h1
    | some ts =>
      obtain ⟨k1, p1, rfl⟩ := asTup_some e2
      have hsl : swapsWithSole [.Tuple ts k1 p1] v p.line X.env = pure false := by
        unfold swapsWithSole swapsWith
        cases v <;> rfl
      refine (ps_asg ((allE e).se o.x v h3 B hB) (pg_ok o.x B t _ h2) hsl sw rfl).imp fun D σ H hq => ?_
      obtain ⟨ρ, tt, vs, fl, a1, a2, a3, a4⟩ := hq
      simp only [runS] at a3
      obtain ⟨⟨r, ρ1⟩, g1, a3⟩ := Res.bind_ok a3
      obtain ⟨ρ2, g2, a3⟩ := Res.bind_ok a3
      cases a3
      refine ⟨ρ, tt, vs, r, ρ1, a1, a2, g1, fun x H1 R1 => ?_⟩
      have l1 : ρ1.length = σ.length := by have a := a1.len; have b := R1.len; simp at a b; omega
      refine ⟨ρ1, tt, vs, r.d, ρ2, R1.frzTop, l1, Res.of_ok g2, fun σ' H' s1 _ R2 => a4 σ' H' (set_len a1 R2 a2) R2⟩
theorem sst_aug (o : SOk gi G tabs N sc k X) {i : Nat} {op : Bop} {e : E} {st : Stmt} (h : okS gi N sc (.aug i op e) st = true) : SS tabs X st (runS G (.aug i op e)) := fun B hB => by
  simp only [okS] at h
  cases e1 : asAug st with
  | none => rw [e1] at h; cases h
  | some z =>
    obtain ⟨t, oo, v⟩ := z
    rw [e1] at h
    obtain ⟨p, rfl⟩ := asAug_some e1
    cases e2 : asName t with
    | none => simp only [e2] at h; cases h
    | some y =>
      simp only [e2] at h
      obtain ⟨py, rfl⟩ := asName_some e2
      simp only [Bool.and_eq_true, decide_eq_true_eq] at h
      obtain ⟨⟨⟨h1, h2⟩, rfl⟩, h3⟩ := h
      obtain ⟨f1, f2⟩ := o.x.fnm y h2
      refine (ps_aug (by rw [o.x.hN]; exact o.x.nd) (by rw [o.x.hN]; exact h1) f1 ((allE e).se o.x v h3 B hB) (ipd op) f2).imp fun D σ H hq => ?_
      obtain ⟨ρ, tt, vs, fl, a1, a2, a3, a4⟩ := hq
      simp only [runS] at a3
      cases ei : ρ.at i with
      | val d =>
        rw [ei] at a3
        simp only at a3
        obtain ⟨⟨r, ρ1⟩, g1, a3⟩ := Res.bind_ok a3
        obtain ⟨d', g2, a3⟩ := Res.bind_ok a3
        have g2 : dAug op d r.d = some d' := Res.of_ok g2
        have gi1 := at_some ei (by intro z; cases z)
        have hi := lt_of_get gi1
        obtain ⟨v0, k1, k2⟩ := a1.val i d (getL gi1)
        rw [get_left (by omega)] at k1
        refine ⟨v0, k1, ρ, tt ++ [(Rv.val d).sl], vs ++ [some v0], r, ρ1, by rw [← List.append_assoc, ← List.append_assoc]; exact a1.push_val k2, a2, g1, fun x H1 R1 => ?_⟩
        have R1' : R X.K B ((ρ1 ++ tt) ++ [(Rv.val d).sl] ++ [r.sl]) ((σ ++ vs) ++ [some v0] ++ [some x]) H1 := by simpa using R1
        obtain ⟨q0, q1, q2⟩ := R1'.take2
        have l1 : ρ1.length = σ.length := set_len a1 q0 a2
        refine ⟨B, _, _, d, r.d, d', q0, q1, q2, g2, fun u H2 R2 => ?_⟩
        simp only at a3
        split at a3
        · rename_i w ew
          cases a3
          have q := R2.storeT (i := i) l1 (by omega) (fun z hz => by rw [ew] at hz; cases hz)
          exact a4 _ H2 (by simp [l1]) q
        · cases a3
      | _ => rw [ei] at a3; cases a3
end
end Gw

set_option Elab.async false
set_option linter.all false
set_option maxRecDepth 100000
set_option maxHeartbeats 4000000
/-! The value layer, part 17: the rest of the statements. -/
namespace Gw
open PySem L2
section
variable {gi : GI} {G : Glo} {tabs : List Addr} {N : List Str} {sc : Scope} {k : Nat} {X : Cx}
theorem sst_set (o : SOk gi G tabs N sc k X) {i : Nat} {kk e : E} {st : Stmt} (h : okS gi N sc (.set i kk e) st = true) : SS tabs X st (runS G (.set i kk e)) := fun B hB => by
  simp only [okS] at h
  cases e1 : asAsg st with
  | none => rw [e1] at h; cases h
  | some z =>
    obtain ⟨t, v, p⟩ := z
    rw [e1] at h
    cases asAsg_some e1
    cases e2 : asSub t with
    | none => simp only [e2] at h; cases h
    | some w =>
      obtain ⟨oo, ix⟩ := w
      simp only [e2, Bool.and_eq_true] at h
      obtain ⟨p2, rfl, hsl⟩ := asSub_some e2
      obtain ⟨⟨h1, h2⟩, h3⟩ := h
      have hs1 : swapsWithSole [.Subscript oo ix p2] v p.line X.env = pure false := by
        unfold swapsWithSole swapsWith
        cases v <;> rfl
      have hs2 : swappedStores [.Subscript oo ix p2] v X.env = pure none := by
        unfold swappedStores
        cases v <;> rfl
      have hpg : PG X (.Subscript oo ix p2) (gSub (tVar i) (tE X.K B (runE G kk)) rSetL) := pg_sub (o.x.var h1) ((allE kk).se o.x ix h2 B hB) set_list (fun v => by cases ix <;> first | rfl | (simp [isSlice] at hsl))
      refine (ps_asg ((allE e).se o.x v h3 B hB) hpg hs1 hs2 rfl).imp fun D σ H hq => ?_
      obtain ⟨ρ, tt, vs, fl, a1, a2, a3, a4⟩ := hq
      simp only [runS] at a3
      obtain ⟨⟨r, ρ1⟩, g1, a3⟩ := Res.bind_ok a3
      obtain ⟨c0, g0, a3⟩ := Res.bind_ok a3
      obtain ⟨⟨rk, ρ2⟩, g2, a3⟩ := Res.bind_ok a3
      refine ⟨ρ, tt, vs, r, ρ1, a1, a2, g1, fun x H1 R1 => ?_⟩
      have R1a : R X.K B (ρ1 ++ (tt ++ [r.sl])) (σ ++ (vs ++ [some x])) H1 := by simpa using R1
      have l1 : ρ1.length = σ.length := by have a := a1.len; have b := R1.len; simp at a b; omega
      obtain ⟨v0, hv0, _⟩ := R1a.read l1 (Res.of_ok g0)
      refine ⟨v0, hv0, ρ1, tt ++ [r.sl], vs ++ [some x], rk, ρ2, R1a, l1, g2, fun y H2 R2 => ?_⟩
      have R2' : R X.K B ((ρ2 ++ tt) ++ [r.sl] ++ [rk.sl]) ((σ ++ vs) ++ [some x] ++ [some y]) H2 := by simpa using R2
      obtain ⟨q0, q1, q2⟩ := R2'.take2
      have l2 : ρ2.length = σ.length := set_len a1 q0 a2
      have key : ∀ (s : Gw.D → Sl) (c c' : Gw.D), (s = Sl.own ∨ s = Sl.ref) → ρ2.at i = s c → dSet c rk.d r.d = some c' → fl = .nx (ρ2.set i (s c')) → rSetL v0 y x H2 fun H3 => D.nx σ H3 := fun s c c' hs hi hd hfl => by
        subst hfl
        have hne : s c ≠ .no := by rcases hs with rfl | rfl <;> (intro z; cases z)
        have gi1 := at_some hi hne
        have hilt := lt_of_get gi1
        obtain ⟨a, hva, hoa⟩ : ∃ a, (σ ++ vs)[i]? = some (some (.ref a)) ∧ OwnAt X.K (Mt B.Z (ρ2 ++ tt) (σ ++ vs)) H2 a c := by
          rcases hs with rfl | rfl
          · obtain ⟨a, k1, k2, _⟩ := q0.own i c (getL gi1); exact ⟨a, k1, k2⟩
          · obtain ⟨a, _, k1, k2⟩ := q0.ref i c (getL gi1); exact ⟨a, k1, k2⟩
        have ev : v0 = .ref a := by
          have hva' := hva
          rw [get_left (by omega), hv0] at hva'
          cases hva'; rfl
        subst ev
        have hso : (s c).isOwn := by rcases hs with rfl | rfl <;> exact trivial
        cases c with
        | lst ds =>
          cases ek : rk.d with
          | int n =>
            rw [ek] at hd q2
            simp only [dSet] at hd
            cases ej : ixN ds.length n with
            | none => rw [ej] at hd; cases hd
            | some j =>
              rw [ej] at hd
              cases hd
              obtain ⟨xs, k3, k4⟩ := hoa
              refine ⟨a, xs, n, j, rfl, q2.intV, k3, by rw [k4.len, ixN_eq]; exact ej, ?_⟩
              have ma : Mt B.Z (ρ2 ++ tt) (σ ++ vs) a := .inr ⟨i, _, getL gi1, hso, hva⟩
              have stay : Stay (Mt B.Z (ρ2 ++ tt) (σ ++ vs)) H2 (upd H2 a (.lst (xs.set j x))) := fun b oo hb nn _ => by
                have ne : b ≠ a := fun e => nn (by rw [e]; exact ma)
                rw [upd_ne ne]; exact hb
              have q := q0.mutate (s := s (.lst ds)) (s' := s (.lst (ds.set j r.d))) (d := .lst ds) (d' := .lst (ds.set j r.d)) (o' := .lst (xs.set j x)) (getL gi1) (by rcases hs with rfl | rfl; exact .inl ⟨rfl, rfl⟩; exact .inr ⟨rfl, rfl⟩) hva
                ⟨xs.set j x, upd_same, (k4.mono stay fun a m => .inl m).set (q1.mono stay fun a m => .inl m) j⟩
              rw [set_left hilt] at q
              exact a4 σ _ (by simp [l2]) q
          | _ => rw [ek] at hd; cases hd
        | _ => cases hd
      simp only at a3
      split at a3
      · rename_i c ec
        obtain ⟨c', g3, a3⟩ := Res.bind_ok a3
        cases a3
        exact key Sl.own c c' (.inl rfl) ec (Res.of_ok g3) rfl
      · rename_i c ec
        obtain ⟨c', g3, a3⟩ := Res.bind_ok a3
        cases a3
        exact key Sl.ref c c' (.inr rfl) ec (Res.of_ok g3) rfl
      · cases a3
theorem sst_app (o : SOk gi G tabs N sc k X) {i : Nat} {e : E} {st : Stmt} (h : okS gi N sc (.app i e) st = true) : SS tabs X st (runS G (.app i e)) := fun B hB => by
  simp only [okS] at h
  cases e1 : asExp st with
  | none => rw [e1] at h; cases h
  | some x =>
    rw [e1] at h
    obtain ⟨p, rfl⟩ := asExp_some e1
    simp only at h
    split at h
    · rename_i oo m y e2
      simp only [Bool.and_eq_true, decide_eq_true_eq, Bool.not_eq_true'] at h
      obtain ⟨apos, pos, rfl, hl1, hl2⟩ := asMeth_some e2
      obtain ⟨⟨⟨rfl, h1⟩, hs⟩, h2⟩ := h
      have hbase : attributeBase oo ("append" : Str) X.env (eval oo X.env) = eval oo X.env := by
        cases oo <;> first | rfl | (simp [isCallE] at hl2)
      have hst : starEach [y] X.env = [(false, eval y X.env)] := star_of hs
      refine (ps_expr (pe_bm PySem.F.plainAttrs_list PySem.F.slot_list_append PySem.F.type_list_append mt_append (o.x.var h1) (pa_cons ((allE e).se o.x y h2 B hB) pa_nil (star_of hs)) hbase (by rw [hst]; rfl) hl1 (star_of hs) rfl) rfl).imp fun D σ H hq => ?_
      obtain ⟨ρ, tt, vs, fl, a1, a2, a3, a4⟩ := hq
      simp only [runS] at a3
      split at a3
      · rename_i l0 e0
        obtain ⟨⟨r, ρ1⟩, g1, a3⟩ := Res.bind_ok a3
        obtain ⟨v0, hv0, hra⟩ := a1.read a2 e0
        obtain ⟨a, xs0, rfl, k1, _, _⟩ := hra.lstV
        refine ⟨_, hv0, .inl ⟨rfl, _, .inl (.inl k1)⟩, ρ, tt, vs, r, ρ1, a1, a2, g1, fun x H1 R1 => ?_⟩
        obtain ⟨q0, q1⟩ := R1.take1
        have l1 : ρ1.length = σ.length := set_len a1 q0 a2
        have key : ∀ (s : Gw.D → Sl) (ds : List Gw.D), (s = Sl.own ∨ s = Sl.ref) → ρ1.at i = s (.lst ds) → lineOk (ds.length + 1) = true → fl = .nx (ρ1.set i (s (.lst (ds ++ [r.d])))) → rAppend (.ref a) [x] H1 fun _ H1 => D.nx σ H1 := fun s ds hs hi hz hfl => by
          subst hfl
          have hne : s (.lst ds) ≠ .no := by rcases hs with rfl | rfl <;> (intro z; cases z)
          have gi1 := at_some hi hne
          have hilt := lt_of_get gi1
          obtain ⟨a', hva, hoa⟩ : ∃ a, (σ ++ vs)[i]? = some (some (.ref a)) ∧ OwnAt X.K (Mt B.Z (ρ1 ++ tt) (σ ++ vs)) H1 a (.lst ds) := by
            rcases hs with rfl | rfl
            · obtain ⟨a, k1, k2, _⟩ := q0.own i _ (getL gi1); exact ⟨a, k1, k2⟩
            · obtain ⟨a, _, k1, k2⟩ := q0.ref i _ (getL gi1); exact ⟨a, k1, k2⟩
          have ev : a' = a := by
            have hva' := hva
            rw [get_left (by omega), hv0] at hva'
            cases hva'; rfl
          subst ev
          have hso : (s (.lst ds)).isOwn := by rcases hs with rfl | rfl <;> exact trivial
          obtain ⟨xs, k3, k4⟩ := hoa
          refine ⟨_, xs, x, rfl, rfl, k3, ?_, ?_⟩
          · have := lineOk_iff hz
            rw [k4.len]; omega
          · have ma : Mt B.Z (ρ1 ++ tt) (σ ++ vs) a' := .inr ⟨i, _, getL gi1, hso, hva⟩
            have stay : Stay (Mt B.Z (ρ1 ++ tt) (σ ++ vs)) H1 (upd H1 a' (.lst (xs ++ [x]))) := fun b oo hb nn _ => by
              have ne : b ≠ a' := fun e => nn (by rw [e]; exact ma)
              rw [upd_ne ne]; exact hb
            have q := q0.mutate (s := s (.lst ds)) (s' := s (.lst (ds ++ [r.d]))) (d := .lst ds) (d' := .lst (ds ++ [r.d])) (o' := .lst (xs ++ [x])) (getL gi1) (by rcases hs with rfl | rfl; exact .inl ⟨rfl, rfl⟩; exact .inr ⟨rfl, rfl⟩) hva
              ⟨xs ++ [x], upd_same, (k4.mono stay fun a m => .inl m).append (.cons (q1.mono stay fun a m => .inl m) .nil)⟩
            rw [set_left hilt] at q
            exact a4 σ _ (by simp [l1]) q
        simp only at a3
        split at a3
        · rename_i ds ed
          by_cases hz : lineOk (ds.length + 1) = true
          · rw [if_pos hz] at a3
            cases a3
            exact key Sl.own ds (.inl rfl) ed hz rfl
          · rw [if_neg hz] at a3; cases a3
        · rename_i ds ed
          by_cases hz : lineOk (ds.length + 1) = true
          · rw [if_pos hz] at a3
            cases a3
            exact key Sl.ref ds (.inr rfl) ed hz rfl
          · rw [if_neg hz] at a3; cases a3
        · cases a3
      · cases a3
    · cases h
theorem sst_exp (o : SOk gi G tabs N sc k X) {e : E} {st : Stmt} (h : okS gi N sc (.exp e) st = true) : SS tabs X st (runS G (.exp e)) := fun B hB => by
  simp only [okS] at h
  cases e1 : asExp st with
  | none => rw [e1] at h; cases h
  | some x =>
    rw [e1] at h
    obtain ⟨p, rfl⟩ := asExp_some e1
    simp only [Bool.and_eq_true] at h
    have hsw : swapsWith x none p.line X.env = pure false := by
      obtain ⟨h1, _⟩ := h
      cases x <;> first | (simp [isCallE] at h1; done) | rfl
    refine (ps_expr ((allE e).se o.x x h.2 B hB) hsw).imp fun D σ H hq => ?_
    obtain ⟨ρ, tt, vs, fl, a1, a2, a3, a4⟩ := hq
    simp only [runS] at a3
    obtain ⟨⟨r, ρ1⟩, g1, a3⟩ := Res.bind_ok a3
    cases a3
    refine ⟨ρ, tt, vs, r, ρ1, a1, a2, g1, fun x H1 R1 => ?_⟩
    obtain ⟨q0, _⟩ := R1.take1
    exact a4 σ H1 (set_len a1 q0 a2) q0
theorem sst_ret (o : SOk gi G tabs N sc k X) {e : E} {st : Stmt} (h : okS gi N sc (.ret e) st = true) : SS tabs X st (runS G (.ret e)) := fun B hB => by
  simp only [okS] at h
  cases e1 : asRet st with
  | none => rw [e1] at h; cases h
  | some x =>
    rw [e1] at h
    obtain ⟨p, rfl⟩ := asRet_some e1
    refine (ps_ret ((allE e).se o.x x h B hB)).imp fun D σ H hq => ?_
    obtain ⟨ρ, tt, vs, fl, a1, a2, a3, a4⟩ := hq
    simp only [runS] at a3
    obtain ⟨⟨r, ρ1⟩, g1, a3⟩ := Res.bind_ok a3
    cases a3
    refine ⟨ρ, tt, vs, r, ρ1, a1, a2, g1, fun x H1 R1 => ?_⟩
    have l1 : ρ1.length = σ.length := by have a := a1.len; have b := R1.len; simp at a b; omega
    exact a4 σ x H1 l1 R1
theorem sst_ife (o : SOk gi G tabs N sc k X) {c : E} {a b : Ss} {st : Stmt} (h : okS gi N sc (.ife c a b) st = true) (iha : ∀ l, okSs gi N sc a l = true → SSs tabs X l (runSs G a)) (ihb : ∀ l, okSs gi N sc b l = true → SSs tabs X l (runSs G b)) : SS tabs X st (runS G (.ife c a b)) := fun B hB => by
  simp only [okS] at h
  cases e1 : asIfS st with
  | none => rw [e1] at h; cases h
  | some z =>
    obtain ⟨x, l, r⟩ := z
    rw [e1] at h
    obtain ⟨p, rfl⟩ := asIfS_some e1
    simp only [Bool.and_eq_true] at h
    obtain ⟨⟨h1, h2⟩, h3⟩ := h
    refine (ps_if ((allE c).st o.x x h1 B hB) (iha l h2 B hB) (ihb r h3 B hB)).imp fun D σ H hq => ?_
    obtain ⟨ρ, tt, vs, fl, a1, a2, a3, a4⟩ := hq
    simp only [runS] at a3
    obtain ⟨⟨rc, ρ1⟩, g1, a3⟩ := Res.bind_ok a3
    obtain ⟨t, g2, a3⟩ := Res.bind_ok a3
    refine ⟨ρ, tt, vs, rc, ρ1, t, a1, a2, g1, Res.of_ok g2, fun H1 R1 => ?_⟩
    have l1 := set_len a1 R1 a2
    cases t with
    | true =>
      simp only [if_true] at a3 ⊢
      exact ⟨ρ1, tt, vs, fl, R1, l1, a3, a4⟩
    | false =>
      simp only [Bool.false_eq_true, if_false] at a3 ⊢
      exact ⟨ρ1, tt, vs, fl, R1, l1, a3, a4⟩
theorem sst_for (o : SOk gi G tabs N sc k X) {t : T} {it : I} {b : Ss} {st : Stmt} (h : okS gi N sc (.fors t it b) st = true) (ihb : ∀ l, okSs gi N sc b l = true → SSs tabs X l (runSs G b)) : SS tabs X st (runS G (.fors t it b)) := fun B hB => by
  simp only [okS] at h
  cases e1 : asFor st with
  | none => rw [e1] at h; cases h
  | some z =>
    obtain ⟨tg, x, l⟩ := z
    rw [e1] at h
    obtain ⟨p, rfl⟩ := asFor_some e1
    simp only [Bool.and_eq_true] at h
    obtain ⟨⟨h1, h2⟩, h3⟩ := h
    refine (ps_for o.hp o.x.calm (allI it o.x tg x h1 B hB) (pg_ok o.x B t tg h2) (ihb l h3 B hB) (notsetI (okI_set h1) _)).imp fun D σ H hq => ?_
    obtain ⟨ρ, tt, vs, fl, a1, a2, a3, a4⟩ := hq
    simp only [runS] at a3
    obtain ⟨⟨ds, ρ1, mv⟩, g1, a3⟩ := Res.bind_ok a3
    cases mv with
    | some _ => cases a3
    | none =>
      simp only at a3
      refine ⟨ρ, tt, vs, ds, ρ1, none, a1, a2, g1, fun J H1 s v hH R1 wk => ?_⟩
      have hH : ∀ d, s ≠ .ref d := hH
      have lt : tt.length = vs.length := by have a := a1.len; simp at a; omega
      have l1 : ρ1.length = σ.length := by have a := R1.len; simp at a; omega
      refine ⟨fun i m σi H => m = ds.length - i ∧ i ≤ ds.length ∧ ∃ ρi : Env, ρi.length = σi.length ∧ R X.K B (ρi ++ tt ++ [s]) (σi ++ vs ++ [v]) H ∧ loopF (fun x ρ => (Res.of (setT t x ρ)).bind fun ρ1 => runSs G b ρ1) (ds.drop i) ρi = .ok fl, ⟨ds.length, rfl, Nat.zero_le _, ρ1, l1, R1, by simpa using a3⟩, ?_⟩
      rintro i m σ5 H5 ⟨rfl, hi, ρi, li, R5, gl⟩
      have l5 : (ρi ++ tt).length = (σ5 ++ vs).length := by simp [li, lt]
      by_cases hlt : i < ds.length
      · right
        obtain ⟨d, hd⟩ : ∃ d, ds[i]? = some d := ⟨ds[i], List.getElem?_eq_getElem hlt⟩
        have hdr : ds.drop i = d :: ds.drop (i + 1) := by
          rw [List.drop_eq_getElem_cons hlt]
          rw [List.getElem?_eq_getElem hlt] at hd
          cases hd; rfl
        rw [hdr] at gl
        simp only [loopF] at gl
        obtain ⟨f, g4, gl⟩ := Res.bind_ok gl
        obtain ⟨ρ2, g5, g4⟩ := Res.bind_ok g4
        have g5 := Res.of_ok g5
        refine ⟨(wk B).go i _ _ H5 hlt l5 R5, fun σ' H' => ∃ ρi : Env, ρi.length = σ'.length ∧ R X.K B (ρi ++ tt ++ [s]) (σ' ++ vs ++ [v]) H' ∧ loopF (fun x ρ => (Res.of (setT t x ρ)).bind fun ρ1 => runSs G b ρ1) (ds.drop (i + 1)) ρi = .ok fl, fun σ' H' ⟨ρi', q1, q2, q3⟩ => ⟨ds.length - (i + 1), by omega, rfl, hlt, ρi', q1, q2, q3⟩, fun x H' y => ?_⟩
        have R6 := (wk B).yld i _ _ H5 x H' d hd l5 R5 y
        refine ⟨ρi, tt ++ [s], vs ++ [v], d, ρ2, by simpa using R6, li, g5, fun σ2 H2 s1 _ R7 => ?_⟩
        have l7 : ρ2.length = σ2.length := by have a := R7.len; simp at a; omega
        refine ⟨ρ2, tt ++ [s], vs ++ [v], f, R7, l7, g4, ?_⟩
        cases f with
        | nx ρ' =>
          exact fun σ' H' hl' R' => ⟨ρ', hl', by simpa using R', gl⟩
        | ct ρ' =>
          exact fun σ' H' hl' R' => ⟨ρ', hl', by simpa using R', gl⟩
        | bk ρ' =>
          intro σ' H' hl' R'
          cases gl
          have R'' : R X.K B (ρ' ++ tt ++ [s]) (σ' ++ vs ++ [v]) H' := by simpa using R'
          exact a4 σ' H' hl' (R''.pop hH)
        | rt r ρ' =>
          intro σ' w H' hl' R'
          cases gl
          have R'' : R X.K B ((ρ' ++ tt) ++ [s] ++ [r.sl]) ((σ' ++ vs) ++ [v] ++ [some w]) H' := by simpa using R'
          exact a4 σ' w H' hl' (R''.drop_mid (by simp [hl', lt]) hH fun t ht d => by
            have := List.mem_singleton.mp ht
            rw [this]; exact r.noref d)
      · left
        have e : i = ds.length := by omega
        subst e
        rw [List.drop_length] at gl
        simp only [loopF] at gl
        cases gl
        exact ⟨(wk B).stop _ _ H5 l5 R5, a4 σ5 H5 li (R5.pop hH)⟩
theorem sst_whl (o : SOk gi G tabs N sc k X) {n : Nat} {c : E} {b : Ss} {st : Stmt} (h : okS gi N sc (.whl n c b) st = true) (ihb : ∀ l, okSs gi N sc b l = true → SSs tabs X l (runSs G b)) : SS tabs X st (runS G (.whl n c b)) := fun B hB => by
  simp only [okS] at h
  cases e1 : asWhl st with
  | none => rw [e1] at h; cases h
  | some z =>
    obtain ⟨x, l⟩ := z
    rw [e1] at h
    obtain ⟨p, rfl⟩ := asWhl_some e1
    simp only [Bool.and_eq_true] at h
    refine (ps_while o.hp ((allE c).st o.x x h.1 B hB) (ihb l h.2 B hB)).imp fun D σ H hq => ?_
    obtain ⟨ρ, tt, vs, fl, a1, a2, a3, a4⟩ := hq
    simp only [runS] at a3
    refine ⟨fun m σi H => ∃ ρi : Env, ρi.length = σi.length ∧ R X.K B (ρi ++ tt) (σi ++ vs) H ∧ loopW (fun ρ => (runE G c ρ).bind fun p => truR p.1 p.2) (fun ρ => runSs G b ρ) m ρi = .ok fl, ⟨n, ρ, a2, a1, a3⟩, ?_⟩
    rintro m σ5 H5 ⟨ρi, li, R5, gl⟩
    cases m with
    | zero => cases gl
    | succ m =>
      simp only [loopW] at gl
      obtain ⟨⟨b', ρ'⟩, g1, gl⟩ := Res.bind_ok gl
      obtain ⟨⟨rc, ρ1⟩, g2, g1⟩ := Res.bind_ok g1
      unfold truR at g1
      obtain ⟨bb, g3, g1⟩ := Res.bind_ok g1
      cases g1
      refine ⟨ρi, tt, vs, rc, ρ1, b', R5, li, g2, Res.of_ok g3, fun H1 R1 => ?_⟩
      have l1 := set_len R5 R1 li
      cases b' with
      | false =>
        simp only [Bool.false_eq_true, if_false] at gl ⊢
        cases gl
        exact a4 σ5 H1 l1 R1
      | true =>
        simp only [if_true] at gl ⊢
        obtain ⟨f, g4, gl⟩ := Res.bind_ok gl
        refine ⟨fun σ' H' => ∃ ρi : Env, ρi.length = σ'.length ∧ R X.K B (ρi ++ tt) (σ' ++ vs) H' ∧ loopW (fun ρ => (runE G c ρ).bind fun p => truR p.1 p.2) (fun ρ => runSs G b ρ) m ρi = .ok fl, fun σ' H' q => ⟨m, Nat.lt_succ_self m, q⟩, ρ1, tt, vs, f, R1, l1, g4, ?_⟩
        cases f with
        | nx ρ' => exact fun σ' H' hl' R' => ⟨ρ', hl', R', gl⟩
        | ct ρ' => exact fun σ' H' hl' R' => ⟨ρ', hl', R', gl⟩
        | bk ρ' =>
          intro σ' H' hl' R'
          cases gl
          exact a4 σ' H' hl' R'
        | rt r ρ' =>
          intro σ' w H' hl' R'
          cases gl
          exact a4 σ' w H' hl' R'
mutual
theorem allS (o : SOk gi G tabs N sc k X) : ∀ (s : S) (st : Stmt), okS gi N sc s st = true → SS tabs X st (runS G s)
  | .asg i e, st, h => sst_asg o h
  | .par is es, st, h => sst_par o h
  | .unp t e, st, h => sst_unp o h
  | .aug i op e, st, h => sst_aug o h
  | .set i kk e, st, h => sst_set o h
  | .exp e, st, h => sst_exp o h
  | .app i e, st, h => sst_app o h
  | .ret e, st, h => sst_ret o h
  | .ife c a b, st, h => sst_ife o h (allSs o a) (allSs o b)
  | .fors t it b, st, h => sst_for o h (allSs o b)
  | .whl n c b, st, h => sst_whl o h (allSs o b)
  | .brk, st, h => fun B hB => by
    cases st <;> simp [okS, isBrk] at h
    refine ps_break.imp fun D σ H hq => ?_
    obtain ⟨ρ, tt, vs, fl, a1, a2, a3, a4⟩ := hq
    simp only [runS] at a3
    cases a3
    exact a4 σ H a2 a1
  | .cont, st, h => fun B hB => by
    cases st <;> simp [okS, isCnt] at h
    refine ps_continue.imp fun D σ H hq => ?_
    obtain ⟨ρ, tt, vs, fl, a1, a2, a3, a4⟩ := hq
    simp only [runS] at a3
    cases a3
    exact a4 σ H a2 a1
  | .pass, st, h => fun B hB => by
    cases st <;> simp [okS, isPas] at h
    refine ps_pass.imp fun D σ H hq => ?_
    obtain ⟨ρ, tt, vs, fl, a1, a2, a3, a4⟩ := hq
    simp only [runS] at a3
    cases a3
    exact a4 σ H a2 a1
  | .bad, st, h => fun B hB => ⟨fun pins s σ H D I ⟨ρ, tt, vs, fl, _, _, hF, _⟩ => by simp only [runS] at hF; cases hF⟩
theorem allSs (o : SOk gi G tabs N sc k X) : ∀ (ss : Ss) (l : List Stmt), okSs gi N sc ss l = true → SSs tabs X l (runSs G ss)
  | .nil, l, h => fun B hB => by
    have : l = [] := by simpa [okSs] using h
    subst this
    refine pss_nil.imp fun D σ H hq => ?_
    obtain ⟨ρ, tt, vs, fl, a1, a2, a3, a4⟩ := hq
    simp only [runSs] at a3
    cases a3
    exact a4 σ H a2 a1
  | .cons s ss, [], h => by simp [okSs] at h
  | .cons s ss, st :: l, h => fun B hB => by
    simp only [okSs, Bool.and_eq_true] at h
    refine (pss_cons (allS o s st h.1 B hB) (allSs o ss l h.2 B hB)).imp fun D σ H hq => ?_
    obtain ⟨ρ, tt, vs, fl, a1, a2, a3, a4⟩ := hq
    simp only [runSs] at a3
    obtain ⟨f, g1, a3⟩ := Res.bind_ok a3
    refine ⟨ρ, tt, vs, f, a1, a2, g1, ?_⟩
    cases f with
    | nx ρ' => exact fun σ' H' hl' R' => ⟨ρ', tt, vs, fl, R', hl', a3, a4⟩
    | ct ρ' => cases a3; exact a4
    | bk ρ' => cases a3; exact a4
    | rt r ρ' => cases a3; exact a4
end
end
end Gw

set_option Elab.async false
set_option linter.all false
set_option maxRecDepth 100000
set_option maxHeartbeats 4000000
/-! The value layer, part 18: defs. -/
namespace Gw
open PySem L2
section
variable {P : Program} {w : World} {K : PySem.W.Frag} {mg : Str → Option Value} {base : Heap} {gi : GI} {tabs : List Addr}
/-- a def of the text, its small syntax, its place -/
structure DfOk (K : PySem.W.Frag) (mg : Str → Option Value) (base : Heap) (tabs : List Addr) (gi : GI) (d : Df) (st : Stmt) (a : Addr) (fd : FuncData) : Prop where
  fn : ∃ qual, Fun K d.nm qual st a fd
  at' : mg d.nm = some (.ref a)
  bind : Binds K fd (d.N.take d.np) []
  sc : FnScope d.N (d.N.take d.np) (defScope st)
  np : d.np ≤ d.N.length
  dbg : ∀ x ∈ d.N, (x == ("__debug__" : Str)) = false ∧ (x == ("__classdict__" : Str)) = false
  nmd : (d.nm == ("__debug__" : Str)) = false
  ok : okSs (gi.on d.g) d.N (defScope st) d.body (defBody st) = true
  tab : d.g = true → ∃ c P : Addr, fd.code = .ref c ∧ GxR.TabB base mg c P ∧ P ∈ tabs
/-- a def by its body, its code known -/
theorem okFn {x qual : Str} {st : Stmt} {f : Addr} {fd : FuncData} {N ps : List Str} {k : Nat} {sp : Sp} (F : Fun K x qual st f fd) (S : FnScope N ps (defScope st)) (len : ∀ vs H Q E, sp vs H Q E → vs.length = ps.length)
    (hbody : ∀ (A : Around) (outer : List PySem.Env) (s : Shared) (H : Hp) (vs : List V) (Q : VK) (E : XK), Room k (A.deeper (PyProof.Rows.envOfC qual (defScope st) s.heap.objs.size f fd.code)) → sp vs H Q E →
      ∃ t, PSs (cxOf CX0 P w K mg base N qual (defScope st) f fd.code A outer s H E).nox (defBody st) t ∧ t { nx := fun _ H' => Q .non H', rt := Q } (L2.start N vs) H) : FnOk P w K mg base CX0 (k + 1) f fd ps sp := by
  obtain ⟨oc, od, kV, doc, pm, an, cdv, ct, osl, rfl, lk, hcd⟩ := F.ex
  refine fn_of lk hcd S len fun A outer s H vs Q E hr hsp => ?_
  obtain ⟨t, h, q⟩ := hbody A outer s H vs Q E hr hsp
  exact ⟨t, h.nox, q⟩
/-- the module's constants -/
def CstOk (K : PySem.W.Frag) (mg : Str → Option Value) (gi : GI) (cst : Nat → Option D) : Prop := ∀ (g : Nat) (nm : Str) (d : D), gi.cs[g]? = some nm → cst g = some d → (nm == ("__debug__" : Str)) = false ∧ ∃ (u : Value) (v : V), mg nm = some u ∧ RelV v u ∧ ∀ M H, Rp K M H v d
theorem R.pushNos {B : Bs} {ss : List Sl} {vs : List (Option V)} {H : Hp} (r : R K B ss vs H) : ∀ n : Nat, R K B (ss ++ List.replicate n .no) (vs ++ List.replicate n none) H
  | 0 => by simpa using r
  | n + 1 => by
    have q := (R.pushNos r n).push_no none
    rw [List.replicate_succ', List.replicate_succ', ← List.append_assoc, ← List.append_assoc]
    exact q
/-- back to what a caller sees -/
theorem R.leave {B : Bs} {ps : List Sl} {vs : List V} {H H' : Hp} (r0 : R K B ps (vs.map some) H) (h0 : ∀ s ∈ ps, ∀ d, s ≠ .own d) {ρ : Env} {σ : List (Option V)} {r : Rv} {v : V} (hl : ρ.length = σ.length) (hn : ps.length ≤ ρ.length)
    (R1 : R K B (ρ ++ [r.sl]) (σ ++ [some v]) H') : R K B ((ρ.take ps.length).map onlyRef ++ [r.sl]) (vs.map some ++ [some v]) H' := by
  have lv : ps.length = vs.length := by have := r0.len; simpa using this
  have lt : ((ρ.take ps.length).map onlyRef).length = vs.length := by simp; omega
  have refj : ∀ {j : Nat} {d : D}, ρ[j]? = some (.ref d) → ∃ e, ps[j]? = some (.ref e) ∧ (vs.map some)[j]? = σ[j]? := fun {j d} h => by
    obtain ⟨a, k1, k2, _⟩ := R1.ref j d (getL h)
    obtain ⟨e, k3⟩ := r0.pin j a k1
    obtain ⟨a', k4, k5, _⟩ := r0.ref j e k3
    rw [k1] at k4; cases k4
    rw [get_left (by have := lt_of_get h; omega)] at k2
    exact ⟨e, k3, k5.trans k2.symm⟩
  refine R1.sel (fun j => if j = vs.length then ρ.length else j) (by simp; omega) (fun j s h => ?_) (fun i j s t h1 h2 o1 o2 e => ?_) (fun j d h => ?_) fun j d h => ?_
  · rcases get1 h with ⟨hj, h1⟩ | ⟨hj, rfl⟩
    · rw [lt] at hj
      obtain ⟨s', h2, rfl⟩ := get_map h1
      rw [List.getElem?_take] at h2
      split at h2
      · cases s' with
        | ref d =>
          right
          rw [if_neg (by omega)]
          obtain ⟨e, _, k⟩ := refj h2
          refine ⟨getL h2, ?_⟩
          rw [List.getElem?_append_left (by simp; omega), get_left (by have := lt_of_get h2; omega)]
          exact k
        | _ => left; rfl
      · cases h2
    · right
      rw [lt] at hj
      rw [if_pos hj]
      refine ⟨getEnd _ _, ?_⟩
      rw [hj, show vs.length = (vs.map some).length by simp, getEnd, hl, getEnd]
  · have hi : i ≤ vs.length := by have := lt_of_get h1; simp at this; omega
    have hj : j ≤ vs.length := by have := lt_of_get h2; simp at this; omega
    by_cases a1 : i = vs.length <;> by_cases a2 : j = vs.length <;> simp only [a1, a2, if_true, if_false] at e ⊢
    · omega
    · omega
    · exact e
  · rcases get1 h with ⟨hj, h1⟩ | ⟨hj, e⟩
    · rw [lt] at hj
      rw [if_neg (by omega)]
    · exact (r.noref d e.symm).elim
  · rcases get1 h with ⟨hj, h1⟩ | ⟨hj, e⟩
    · obtain ⟨e, k1, _⟩ := refj h1
      refine getL ?_
      rw [List.getElem?_map, List.getElem?_take, if_pos (lt_of_get k1), h1]
      rfl
    · exact (r.noref d e.symm).elim
theorem spF_len {F : Fn} {n : Nat} (hF : ∀ ps r ps', F ps = .ok (r, ps') → ps.length = n) : ∀ vs H Q E, spF K tabs F vs H Q E → vs.length = n := fun vs H Q E ⟨B, ps, r, ps', _, _, hR, _, h, _⟩ => by
  have := hR.len
  have := hF ps r ps' h
  simp at *; omega
/-- every def, with n levels of calls -/
theorem all_defs {ds : List Df} {cst : Nat → Option D} {stOf : Nat → Stmt} {aOf : Nat → Addr} {fdOf : Nat → FuncData} (hfs : gi.fs = ds.map (·.nm)) (hd : ∀ (f : Nat) (d : Df), ds[f]? = some d → DfOk K mg base tabs gi d (stOf f) (aOf f) (fdOf f)) (hc : CstOk K mg gi cst) (hb : ∀ x ∈ bltNames, mg x = none) :
    ∀ (n : Nat) (f : Nat) (d : Df), ds[f]? = some d → FnOk P w K mg base CX0 (2 * n) (aOf f) (fdOf f) (d.N.take d.np) (spF K tabs (Phi ds cst n f))
  | 0, f, d, hf => by
    refine ⟨fun vs H Q E h => ?_, fun A outer s H args us vs Q E _ _ _ _ h => ?_⟩
    · obtain ⟨B, ps, r, ps', _, _, _, _, h, _⟩ := h
      cases h
    · obtain ⟨B, ps, r, ps', _, _, _, _, h, _⟩ := h
      cases h
  | n + 1, f, d, hf => by
    have o := hd f d hf
    obtain ⟨qual, F⟩ := o.fn
    have hPhi : Phi ds cst (n + 1) f = runF ⟨Phi ds cst n, cst⟩ d.N.length d.np d.body := by
      show (match ds[f]? with | none => _ | some d => _) = _
      rw [hf]
    rw [hPhi]
    refine okFn (k := 2 * n + 1) F o.sc (fun vs H Q E h => ?_) fun A outer s H vs Q E hr h => ?_
    · rw [spF_len (n := d.np) (fun ps r ps' h => ?_) vs H Q E h]
      · rw [List.length_take]; have := o.np; omega
      · unfold runF at h
        split at h
        · assumption
        · cases h
    · obtain ⟨B, ps, r, ps', hB0, hBt, hR, hno, hF, hQ⟩ := h
      have xo : XOk (gi.on d.g) ⟨Phi ds cst n, cst⟩ tabs d.N (defScope (stOf f)) (defScope (stOf f)) (2 * n) (cxOf CX0 P w K mg base d.N qual (defScope (stOf f)) (aOf f) (fdOf f).code A outer s H E).nox := {
        hN := rfl
        sc := rfl
        calm := rfl
        nd := o.sc.nd
        dbg := o.dbg
        room := hr.mono (by omega)
        roomG := fun _ => hr
        code := fun h => o.tab h
        blt := hb
        fn := fun g nm hg => by
          have hg : gi.fs[g]? = some nm := hg
          rw [hfs, List.getElem?_map] at hg
          cases e : ds[g]? with
          | none => rw [e] at hg; cases hg
          | some d' =>
            rw [e] at hg
            cases hg
            have o' := hd g d' e
            obtain ⟨qual', F'⟩ := o'.fn
            exact ⟨o'.nmd, aOf g, fdOf g, _, o'.at', F'.kp, o'.bind, all_defs hfs hd hc hb n g d' e⟩
        cst := hc
        fnm := fun x hx => by
          rcases isLoc_iff hx with q | q
          · exact ⟨.inl q, .inr q⟩
          · exact ⟨.inr q, .inl rfl⟩ }
      have so : SOk (gi.on d.g) ⟨Phi ds cst n, cst⟩ tabs d.N (defScope (stOf f)) (2 * n) (cxOf CX0 P w K mg base d.N qual (defScope (stOf f)) (aOf f) (fdOf f).code A outer s H E).nox := ⟨xo, o.sc.kind, PassesOwn.never⟩
      refine ⟨_, allSs so d.body (defBody (stOf f)) o.ok B hBt, ?_⟩
      unfold runF at hF
      split at hF
      · rename_i hl
        obtain ⟨fl, g1, hF⟩ := Res.bind_ok hF
        have lv : ps.length = vs.length := by have := hR.len; simpa using this
        refine ⟨ps ++ List.replicate (d.N.length - d.np) .no, [], [], fl, ?_, ?_, g1, ?_⟩
        · rw [List.append_nil, List.append_nil]
          have q := hR.pushNos (d.N.length - d.np)
          unfold L2.start
          rw [show d.N.length - vs.length = d.N.length - d.np by omega]
          exact q
        · unfold L2.start
          simp; omega
        · cases fl with
          | rt rr ρ' =>
            simp only at hF
            split at hF
            · rename_i hnp
              cases hF
              intro σ' v H' hl' R'
              rw [List.append_nil, List.append_nil] at R'
              have q := R.leave hR hno hl' (by omega) R'
              rw [hl] at q
              exact hQ v H' q
            · cases hF
          | nx ρ' =>
            simp only at hF
            split at hF
            · rename_i hnp
              cases hF
              intro σ' H' hl' R'
              rw [List.append_nil, List.append_nil] at R'
              have q := R.leave (r := .val .non) (v := .non) hR hno hl' (by omega) (R'.push_val .non)
              rw [hl] at q
              exact hQ .non H' q
            · cases hF
          | bk ρ' => cases hF
          | ct ρ' => cases hF
      · cases hF
end
end Gw

set_option Elab.async false
set_option linter.all false
set_option maxRecDepth 100000
set_option maxHeartbeats 4000000
/-! The value layer: a law's rounds. -/
namespace Gw
open PySem L2
/-! ### the dice, plainly -/
def diceL (c : Int) : List Int := if -10 < c ∧ c < 10 then [if c < 0 then -c else c, 0, 2] else [c, 1 + c % 1009, if 10 ^ 18 ≤ c then 1 else 0]
def diceD (c : Int) : D := .lst ((diceL c).map D.int)
def cellsOf (ns : List Int) (n : Int) : List Int := if cut ns none (some n) = [] then [0] else cut ns none (some n)
/-- a law's loop over its dice -/
def loopL (G : Glo) (i : Nat) (b : Ss) : List Int → Env → Res Env
  | [], ρ => .ok ρ
  | c :: r, ρ => (runSs G b (ρ.set i (.own (diceD c)))).bind fun f => match f with
      | .nx ρ' => loopL G i b r ρ'
      | .ct ρ' => loopL G i b r ρ'
      | _ => .stuck
section
variable {K : PySem.W.Frag} {B : Bs} {ss ts ps : List Sl} {vs us ws : List (Option V)} {H H' : Hp}
/-- back in the caller, with several results -/
theorem R.backs (hR : R K B ss vs H) (h : R K ⟨H, none, B.tabs, Mt B.Z ss vs, fun _ => none⟩ (ps ++ ts) (us ++ ws) H') (hl : ps.length = us.length) (hn : ∀ t ∈ ts, ∀ d, t ≠ .ref d) : R K B (ss ++ ts) (vs ++ ws) H' := by
  have g : Grow B.tabs H H' := ⟨fun a o q n => h.ext.stay a o q (fun ⟨j, e⟩ => by cases j <;> cases e) n, fun a ps q => h.ext.tbl a ps q, fun a ha _ => h.tab a ha⟩
  have lt : ts.length = ws.length := by have := h.len; simp at this; omega
  have upL : ∀ {j : Nat} {s : Sl}, ts[j]? = some s → (ps ++ ts)[ps.length + j]? = some s := fun {j s} e => by
    rw [List.getElem?_append_right (by omega), show ps.length + j - ps.length = j by omega]; exact e
  have upV : ∀ {j : Nat}, (us ++ ws)[ps.length + j]? = ws[j]? := fun {j} => by
    rw [hl, List.getElem?_append_right (by omega), show us.length + j - us.length = j by omega]
  have vR : ∀ {j : Nat}, ss.length ≤ j → (vs ++ ws)[j]? = ws[j - ss.length]? := fun {j} hj => by
    rw [hR.len] at hj ⊢
    rw [List.getElem?_append_right hj]
  have vL : ∀ {j : Nat}, j < ss.length → (vs ++ ws)[j]? = vs[j]? := fun {j} hj => by
    rw [hR.len] at hj
    rw [List.getElem?_append_left hj]
  -- an own one of ts: new, and none of the caller's
  have newT : ∀ {j : Nat} {s : Sl} {a : Addr}, ts[j]? = some s → s.isOwn → ws[j]? = some (some (V.ref a)) → H a = none ∧ ¬ Mt B.Z ss vs a := fun {j s a} e o v => by
    have hz := h.sepZ (ps.length + j) s a (upL e) o (by rw [upV]; exact v)
    cases s with
    | no => exact o.elim
    | val d => exact o.elim
    | ref d => exact (hn _ (List.mem_of_getElem? e) d rfl).elim
    | own d =>
      obtain ⟨b, h1, _, h3⟩ := h.own _ d (upL e)
      rw [upV, v] at h1; cases h1
      exact ⟨h3, hz⟩
  have m1 : ∀ a, Mt B.Z (ss ++ ts) (vs ++ ws) a → Mt B.Z ss vs a ∨ ∃ (j : Nat) (s : Sl), ts[j]? = some s ∧ s.isOwn ∧ ws[j]? = some (some (V.ref a)) := fun a m => m.elim (fun z => .inl (.inl z)) fun ⟨j, s, h1, h2, h3⟩ => by
    rcases getA h1 with ⟨hj, e⟩ | ⟨hj, e⟩
    · rw [vL hj] at h3
      exact .inl (.inr ⟨j, s, e, h2, h3⟩)
    · rw [vR hj] at h3
      exact .inr ⟨_, s, e, h2, h3⟩
  have m2 : ∀ a, Mt B.Z (ss ++ ts) (vs ++ ws) a → Mt (Mt B.Z ss vs) (ps ++ ts) (us ++ ws) a := fun a m => by
    rcases m1 a m with z | ⟨j, s, e, o, v⟩
    · exact .inl z
    · exact .inr ⟨ps.length + j, s, upL e, o, by rw [upV]; exact v⟩
  have st : Stay (Mt B.Z ss vs) H H' := fun a o e _ t => g.stay a o e t
  have nm : NewM (Mt B.Z ss vs) (Mt B.Z (ss ++ ts) (vs ++ ws)) H := fun a m => by
    rcases m1 a m with z | ⟨j, s, e, o, v⟩
    · exact .inl z
    · exact .inr (newT e o v).1
  have ownL : ∀ {a : Addr} {d : D}, OwnAt K (Mt B.Z ss vs) H a d → OwnAt K (Mt B.Z (ss ++ ts) (vs ++ ws)) H' a d := fun {a d} q => by
    obtain ⟨o, e, t⟩ := q.obj
    exact q.mono st nm ((g.stay a o e t).trans e.symm)
  refine ⟨by simp [hR.len, lt], fun j d e => ?_, fun j d e => ?_, fun j d e => ?_, fun j a e => ?_, fun i j s t a h1 h2 o1 o2 h3 h4 => ?_, ⟨fun a o e n t => g.stay a o (hR.ext.stay a o e n t) t, fun a ps e => ?_⟩, fun a ha => h.tab a ha, fun a ha => ?_, fun j s a h1 o1 h3 => ?_, fun a o e => ?_⟩
  · rcases getA e with ⟨hj, e⟩ | ⟨hj, e⟩
    · obtain ⟨v, h1, h2⟩ := hR.val j d e
      exact ⟨v, by rw [vL hj]; exact h1, h2.mono st nm⟩
    · obtain ⟨v, h1, h2⟩ := h.val _ d (upL e)
      rw [upV] at h1
      exact ⟨v, by rw [vR hj]; exact h1, rp_congr m2 h2⟩
  · rcases getA e with ⟨hj, e⟩ | ⟨hj, e⟩
    · obtain ⟨a, h1, h2, h3⟩ := hR.own j d e
      exact ⟨a, by rw [vL hj]; exact h1, ownL h2, h3⟩
    · obtain ⟨a, h1, h2, h3⟩ := h.own _ d (upL e)
      rw [upV] at h1
      exact ⟨a, by rw [vR hj]; exact h1, own_congr m2 h2, hR.new0 h3⟩
  · rcases getA e with ⟨hj, e⟩ | ⟨hj, e⟩
    · obtain ⟨a, h0, h1, h2⟩ := hR.ref j d e
      exact ⟨a, h0, by rw [vL hj]; exact h1, ownL h2⟩
    · exact (hn _ (List.mem_of_getElem? e) d rfl).elim
  · obtain ⟨d, h1⟩ := hR.pin j a e
    exact ⟨d, getL h1⟩
  · rcases getA h1 with ⟨hi, e1⟩ | ⟨hi, e1⟩ <;> rcases getA h2 with ⟨hj, e2⟩ | ⟨hj, e2⟩
    · rw [vL hi] at h3
      rw [vL hj] at h4
      exact hR.sep i j s t a e1 e2 o1 o2 h3 h4
    · rw [vL hi] at h3
      rw [vR hj] at h4
      exact ((newT e2 o2 h4).2 (.inr ⟨i, s, e1, o1, h3⟩)).elim
    · rw [vR hi] at h3
      rw [vL hj] at h4
      exact ((newT e1 o1 h3).2 (.inr ⟨j, t, e2, o2, h4⟩)).elim
    · rw [vR hi] at h3
      rw [vR hj] at h4
      have := h.sep _ _ s t a (upL e1) (upL e2) o1 o2 (by rw [upV]; exact h3) (by rw [upV]; exact h4)
      omega
  · obtain ⟨p1, q⟩ := hR.ext.tbl a ps e
    exact g.tbl a p1 q
  · obtain ⟨o, q, t⟩ := hR.zed a ha
    exact ⟨o, g.stay a o q t, t⟩
  · rcases getA h1 with ⟨hj, e1⟩ | ⟨hj, e1⟩
    · rw [vL hj] at h3
      exact hR.sepZ j s a e1 o1 h3
    · rw [vR hj] at h3
      exact fun z => (newT e1 o1 h3).2 (.inl z)
  · obtain ⟨q, z⟩ := hR.fix a o e
    exact ⟨g.stay a o q (fun ps e => by rw [e] at z; exact z), z⟩
end
/-! ### _law_rounds -/
def ownDice (cs : List Int) : List Sl := cs.map fun c => .own (diceD c)
def spR (K : PySem.W.Frag) (tabs : List Addr) : Sp := fun vs H Q _ => ∃ (B : Bs) (ns : List Int) (n : Int),
  B.H0 = H ∧ B.tabs = tabs ∧ B.r0 = none ∧ R K B [.val (.scr ns), .val (.int n)] (vs.map some) H ∧ (cellsOf ns n).length ≤ 1000 ∧
  ∀ (v : V) (as : List Addr) (H' : Hp), as.length = (cellsOf ns n).length → R K B ([.no, .no] ++ (.own (.lst (as.map D.adr)) :: ownDice (cellsOf ns n))) (vs.map some ++ (some v :: as.map fun a => some (V.ref a))) H' → Q v H'
def rndS : Ss := .cons (.asg 2 (.sli (.var 0) .nop (.var 1))) (.cons (.ife (.cmv .eq 2 (.lst .nil)) (.cons (.asg 2 (.lst (.cons (.cst (.int 0)) .nil))) .nil) .nil) .nil)
def rndE (f : Nat) : E := .cal f (.cons (.var 3) .nil)
def okRnd (gi : GI) (N : List Str) (sc : Scope) (f : Nat) : List Stmt → Bool
  | [s1, s2, s3] => okSs gi N sc rndS [s1, s2] && (match asRet s3 with
    | some x => okE gi N sc (.lc (rndE f) (.nm 3) (.frz (.var 2)) .nop) x
    | none => false)
  | _ => false
theorem cut_map {α β : Type} (f : α → β) (xs : List α) (lo hi : Option Int) : cut (xs.map f) lo hi = (cut xs lo hi).map f := by
  unfold cut
  rw [List.length_map, List.map_take, List.map_drop]
theorem runRnd (G : Glo) (ns : List Int) (n : Int) : runSs G rndS [.val (.scr ns), .val (.int n), .no, .no] = .ok (.nx [.val (.scr ns), .val (.int n), .own (.lst ((cellsOf ns n).map D.int)), .no]) := by
  unfold rndS cellsOf
  simp only [runSs, runS, runE, runEs, Env.put, Env.at, E.isNop, dCut, dPart, Res.ok_bind, Res.of_some, List.getElem?_cons_zero, List.getElem?_cons_succ, Option.getD_some, List.set_cons_zero, List.set_cons_succ, Rv.d, Rv.sl, if_true, cut_map, Bool.false_eq_true, if_false]
  cases e : cut ns none (some n) with
  | nil => rfl
  | cons c r =>
    have h1 : ∀ l : List Int, D.plains (l.map D.int) = true := fun l => by
      induction l with
      | nil => rfl
      | cons a l ih => simp [D.plains, D.plain, ih]
    have h2 : ∀ l : List Int, D.depths (l.map D.int) = 0 := fun l => by
      induction l with
      | nil => rfl
      | cons a l ih => simp [D.depths, D.depth, ih]
    have h3 : dCmp .eq (.lst (D.int c :: r.map D.int)) (.lst []) = some false := by
      rw [← List.map_cons]
      simp only [dCmp, dEqO, D.scal, D.flat, D.shaped, D.plain, D.depth, h1, h2]
      rfl
    simp [Sl.d?, lineOk, h3, dTruth]
section
variable {P : Program} {w : World} {K : PySem.W.Frag} {mg : Str → Option Value} {base : Heap} {gi : GI} {tabs : List Addr}
theorem rpa_ints {K : PySem.W.Frag} {M : Addr → Prop} {H : Hp} : ∀ {vs : List V} {ns : List Int}, RpA K M H vs (ns.map D.int) → vs = ns.map V.int
  | _, [], .nil => rfl
  | _, n :: ns, .cons h t => by rw [h.intV, rpa_ints t]; rfl
theorem rpa_false {K : PySem.W.Frag} {M : Addr → Prop} {H : Hp} {vs : List V} {ns : List Int} (h : RpA K M H vs (ns.map D.int)) : RpA K (fun _ => False) H vs (ns.map D.int) := by
  rw [rpa_ints h]; exact RpA.ints ns
theorem rounds_read {X : Cx} {G : Glo} {N : List Str} {sc : Scope} {k f : Nat} {B : Bs} {σ : L2.St} {H : Hp} {Q : VK} {cs : List Int} {ρ : Env} (hX : σ.length = 4) (hdice : ∀ c, G.fn f [.val (.int c)] = .ok (.own (diceD c), [.val (.int c)])) (hra : B.r0 = none)
    (hρ : ρ.length = 4) (h2 : ρ.at 2 = .own (.lst (cs.map D.int))) (h3 : ρ.at 3 = .no) (hR : R X.K B ρ σ H) (hcs : cs.length ≤ 1000)
    (hQ : ∀ (v : V) (as : List Addr) (H' : Hp), as.length = cs.length → R X.K B (ρ.set 2 (.val (.lst (cs.map D.int))) ++ (.own (.lst (as.map D.adr)) :: ownDice cs)) (σ ++ (some v :: as.map fun a => some (V.ref a))) H' → Q v H') :
    tLc (iList X.K (tE X.K B (runE G (.var 2)))) (gD X.K B (.nm 3)) (tCnd X.K B G .nop) (tE X.K B (runE G (rndE f))) [3] σ H Q := by
  have e2 : runE G (.var 2) ρ = .ok (.val (.lst (cs.map D.int)), ρ.set 2 (.val (.lst (cs.map D.int)))) := by simp only [runE, h2]
  refine ⟨ρ, [], [], _, _, by simpa using hR, by omega, e2, fun v H1 R1 => ?_⟩
  simp only [List.append_nil, Rv.sl] at R1
  obtain ⟨_, q1⟩ := R1.take1 (r := .val (.lst (cs.map D.int)))
  obtain ⟨a, xs, rfl, g1, _, g3⟩ := q1.lstV
  refine ⟨a, rfl, ⟨xs, .inl (.inl g1)⟩, fun Da hD => ?_⟩
  -- the state: the slots, the walked list, the new list, the dice
  let ρ2 : Env := ρ.set 2 (.val (.lst (cs.map D.int)))
  have l2 : ρ2.length = 4 := by simp [ρ2, hρ]
  let Sta (i : Nat) (as : List Addr) (H : Hp) : Prop := R X.K B (ρ2 ++ [Sl.val (.lst (cs.map D.int)), Sl.own (.lst (as.map D.adr))] ++ ownDice (cs.take i)) (L2.wipe σ [3] ++ [some (.ref a), some (.ref Da)] ++ as.map fun b => some (V.ref b)) H
  have lw : (L2.wipe σ [3]).length = 4 := by rw [L2.wipe_length]; exact hX
  have n3 : ρ2[3]? = some .no := by
    have : ρ2.at 3 = .no := by
      show ((ρ.set 2 (.val (.lst (cs.map D.int))))[3]?).getD .no = .no
      rw [List.getElem?_set_ne (by decide)]; exact h3
    rw [at_get (by omega), this]
  have walked : ∀ {i : Nat} {as : List Addr} {H : Hp}, Sta i as H → ∃ xs, H a = some (.lst xs) ∧ RpA X.K (fun _ => False) H xs (cs.map D.int) := fun {i as H} r => by
    obtain ⟨v, k1, k2⟩ := r.val 4 (.lst (cs.map D.int)) (by
      rw [List.append_assoc, List.getElem?_append_right (by omega), l2]; rfl)
    rw [List.append_assoc, List.getElem?_append_right (by omega), lw] at k1
    cases k1
    obtain ⟨a', xs, e, g1, _, g3⟩ := k2.lstV
    cases e
    exact ⟨xs, g1, rpa_false g3⟩
  refine ⟨fun i m H => m = cs.length - i ∧ i ≤ cs.length ∧ ∃ as : List Addr, as.length = i ∧ Sta i as H, ⟨cs.length, rfl, Nat.zero_le _, [], rfl, ?_⟩, ?_⟩
  · have R2 := R1.push_own (d := .lst []) (H' := upd H1 Da (.lst [])) hD (Grow.new hD) ⟨[], upd_same, .nil⟩
    have R3 : R X.K B (ρ2 ++ [.val (.lst (cs.map D.int)), .own (.lst [])]) (σ ++ [some (.ref a), some (.ref Da)]) (upd H1 Da (.lst [])) := by simpa using R2
    show R X.K B (ρ2 ++ [.val (.lst (cs.map D.int)), .own (.lst ([].map D.adr))] ++ ownDice (cs.take 0)) (L2.wipe σ [3] ++ [some (.ref a), some (.ref Da)] ++ ([] : List Addr).map fun b => some (V.ref b)) _
    simp only [List.map_nil, List.take_zero, ownDice, List.append_nil]
    refine R3.unwipe (by simp [L2.wipe_length]) fun j => ?_
    by_cases hj : j = 3
    · subst hj
      exact .inr (getL n3)
    · left
      by_cases hz : j < σ.length
      · rw [List.getElem?_append_left (by rw [L2.wipe_length]; exact hz), List.getElem?_append_left hz, L2.wipe_out (by simp [hj])]
      · rw [List.getElem?_append_right (by rw [L2.wipe_length]; omega), List.getElem?_append_right (by omega), L2.wipe_length]
  · rintro i m H5 ⟨rfl, hi, as, la, R5⟩
    obtain ⟨xs, gx, rx⟩ := walked R5
    have ex := rpa_ints rx
    by_cases hlt : i < cs.length
    · right
      have hci : xs[i]? = some (.int cs[i]) := by rw [ex, List.getElem?_map, List.getElem?_eq_getElem hlt]; rfl
      refine ⟨⟨xs, _, .inl (.inl gx), hci⟩, fun H' => ∃ as : List Addr, as.length = i + 1 ∧ Sta (i + 1) as H', fun H' ⟨as', q1, q2⟩ => ⟨cs.length - (i + 1), by omega, rfl, hlt, as', q1, q2⟩, fun x H' y => ?_⟩
      obtain ⟨rfl, y⟩ := y
      have hx := y xs (.inl (.inl gx))
      rw [hci] at hx
      cases hx
      have R6 := R5.push_val (v := .int cs[i]) (d := .int cs[i]) (.int _)
      have hs3 : setT (.nm 3) (.int cs[i]) ρ2 = some (ρ2.set 3 (.val (.int cs[i]))) := by
        simp only [setT, Env.put]
      refine ⟨ρ2, [Sl.val (.lst (cs.map D.int)), Sl.own (.lst (as.map D.adr))] ++ ownDice (cs.take i), [some (.ref a), some (.ref Da)] ++ as.map fun b => some (V.ref b), .int cs[i], _, by simpa using R6, by omega, hs3, fun σ2 H2 s1 s2 R7 => ?_⟩
      rw [L2.wipe_length] at s1
      have s3 : ∀ j, j ∉ [3] → σ2[j]? = σ[j]? := fun j hj => by rw [s2 j (by simpa [T.slots] using hj), L2.wipe_out hj]
      refine ⟨lwipe_eq s1 s3, ?_⟩
      refine ⟨_, _, _, true, _, R7, by simp [l2]; omega, rfl, fun H3 R8 => ?_⟩
      simp only [if_true]
      have l4 : (ρ2.set 3 (.val (.int cs[i]))).length = σ2.length := by simp [l2]; omega
      have e3 : runE G (rndE f) (ρ2.set 3 (.val (.int cs[i]))) = .ok (.own (diceD cs[i]), ρ2.set 3 (.val (.int cs[i]))) := by
        have : Env.at (ρ2.set 3 (.val (.int cs[i]))) 3 = .val (.int cs[i]) := by
          unfold Env.at
          rw [List.getElem?_set_self (by omega)]; rfl
        simp only [rndE, runE, runEs, this, Res.bind, List.map_cons, List.map_nil, Rv.d, hdice]
      refine ⟨_, _, _, _, _, R8, l4, e3, fun y H4 R9 => ?_⟩
      -- the new dice's place
      have lt2 : (ρ2.set 3 (.val (.int cs[i])) ++ ([Sl.val (.lst (cs.map D.int)), Sl.own (.lst (as.map D.adr))] ++ ownDice (cs.take i))).length = (σ2 ++ ([some (V.ref a), some (V.ref Da)] ++ as.map fun b => some (V.ref b))).length := by
        have := R8.len
        exact this
      obtain ⟨d0, k1, k2, k3⟩ := R9.own _ (diceD cs[i]) (getEnd _ _)
      rw [lt2, getEnd] at k1
      cases k1
      -- the list at Da
      have posL : (ρ2.set 3 (.val (.int cs[i])) ++ ([Sl.val (.lst (cs.map D.int)), Sl.own (.lst (as.map D.adr))] ++ ownDice (cs.take i)) ++ [(Rv.own (diceD cs[i])).sl])[5]? = some (.own (.lst (as.map D.adr))) := by
        rw [List.append_assoc, List.getElem?_append_right (by simp [l2])]
        simp [l2]
      have posV : (σ2 ++ ([some (V.ref a), some (V.ref Da)] ++ as.map fun b => some (V.ref b)) ++ [some (V.ref d0)])[5]? = some (some (.ref Da)) := by
        rw [List.append_assoc, List.getElem?_append_right (by omega), s1, hX]
        rfl
      obtain ⟨b0, j1, j2, _⟩ := R9.own 5 _ posL
      rw [posV] at j1
      cases j1
      obtain ⟨ys, j3, j4⟩ := j2
      refine ⟨ys, j3, by
        have := j4.len
        simp only [List.length_map, la] at this
        rw [this, sizeLine_eq]; omega, as ++ [d0], by simp [la], ?_⟩
      have stay : Stay (Mt B.Z (ρ2.set 3 (.val (.int cs[i])) ++ ([Sl.val (.lst (cs.map D.int)), Sl.own (.lst (as.map D.adr))] ++ ownDice (cs.take i)) ++ [(Rv.own (diceD cs[i])).sl]) (σ2 ++ ([some (V.ref a), some (V.ref Da)] ++ as.map fun b => some (V.ref b)) ++ [some (V.ref d0)])) H4 (upd H4 Da (.lst (ys ++ [.ref d0]))) := fun b o hb n _ => by
        have ne : b ≠ Da := fun e => n (by rw [e]; exact .inr ⟨5, _, posL, trivial, posV⟩)
        rw [upd_ne ne]; exact hb
      have R10 := R9.mutate (s := .own (.lst (as.map D.adr))) (s' := .own (.lst ((as ++ [d0]).map D.adr))) (d' := .lst ((as ++ [d0]).map D.adr)) (o' := .lst (ys ++ [.ref d0])) posL (.inl ⟨rfl, rfl⟩) posV
        ⟨ys ++ [.ref d0], upd_same, by rw [List.map_append]; exact (j4.mono stay fun a m => .inl m).append (.cons (.adr d0) .nil)⟩
      have es : (ρ2.set 3 (.val (.int cs[i])) ++ ([Sl.val (.lst (cs.map D.int)), Sl.own (.lst (as.map D.adr))] ++ ownDice (cs.take i)) ++ [(Rv.own (diceD cs[i])).sl]).set 5 (.own (.lst ((as ++ [d0]).map D.adr))) = ρ2.set 3 (.val (.int cs[i])) ++ ([Sl.val (.lst (cs.map D.int)), Sl.own (.lst ((as ++ [d0]).map D.adr))] ++ ownDice (cs.take (i + 1))) := by
        rw [List.append_assoc, List.set_append_right _ _ (by simp [l2])]
        simp only [List.length_set, l2]
        simp [ownDice, Rv.sl]
        rw [List.take_add_one, List.getElem?_map, List.getElem?_eq_getElem hlt]; rfl
      rw [es] at R10
      have R11 : R X.K B (ρ2.set 3 (.val (.int cs[i])) ++ ([Sl.val (.lst (cs.map D.int)), Sl.own (.lst ((as ++ [d0]).map D.adr))] ++ ownDice (cs.take (i + 1)))) (σ2 ++ ([some (V.ref a), some (V.ref Da)] ++ (as ++ [d0]).map fun b => some (V.ref b))) (upd H4 Da (.lst (ys ++ [.ref d0]))) := by simpa using R10
      have R12 := R11.wiped (sl := [3]) (σ' := L2.wipe σ [3]) l4 (by rw [L2.wipe_length, s1]) (fun j hj => by rw [L2.wipe_out hj, s3 j hj]) fun j hj => by
          have hj : j = 3 := by simpa using hj
          subst hj; rfl
      have ew : wipe (ρ2.set 3 (.val (.int cs[i]))) [3] = ρ2 := by
        show (ρ2.set 3 (.val (.int cs[i]))).set 3 .no = ρ2
        rw [List.set_set]
        apply List.ext_getElem?
        intro j
        by_cases e : 3 = j
        · subst e; rw [List.getElem?_set_self (by omega), n3]
        · rw [List.getElem?_set_ne e]
      rw [ew] at R12
      show R X.K B _ _ _
      simpa using R12
    · left
      have e : i = cs.length := by omega
      subst e
      refine ⟨⟨xs, .inl (.inl gx), by rw [ex, List.length_map]; exact Nat.le_refl _⟩, ?_⟩
      refine hQ (.ref Da) as H5 la ?_
      have R6 : R X.K B (ρ2 ++ [Sl.val (.lst (cs.map D.int)), Sl.own (.lst (as.map D.adr))] ++ ownDice (cs.take cs.length)) (σ ++ [some (.ref a), some (.ref Da)] ++ as.map fun b => some (V.ref b)) H5 := by
        refine R5.unwipe (by simp [L2.wipe_length]) fun j => ?_
        by_cases hj : j = 3
        · subst hj
          exact .inr (getL (getL n3))
        · left
          simp only [List.append_assoc]
          by_cases hz : j < σ.length
          · rw [List.getElem?_append_left hz, List.getElem?_append_left (by rw [L2.wipe_length]; exact hz), L2.wipe_out (by simp [hj])]
          · rw [List.getElem?_append_right (l₁ := σ) (by omega), List.getElem?_append_right (l₁ := L2.wipe σ [3]) (by rw [L2.wipe_length]; omega), L2.wipe_length]
      rw [List.take_length] at R6
      have R7 : R X.K B (ρ2 ++ [.val (.lst (cs.map D.int))] ++ (.own (.lst (as.map D.adr)) :: ownDice cs)) (σ ++ [some (.ref a)] ++ (some (.ref Da) :: as.map fun b => some (V.ref b))) H5 := by simpa using R6
      refine R7.drop_mid (by omega) (fun d e => by cases e) fun t ht d e => ?_
      subst e
      rcases List.mem_cons.mp ht with h | h
      · cases h
      · unfold ownDice at h
        obtain ⟨_, _, h⟩ := List.mem_map.mp h
        cases h
end
end Gw

set_option Elab.async false
set_option linter.all false
set_option maxRecDepth 100000
set_option maxHeartbeats 4000000
/-! The value layer: a law. -/
namespace Gw
open PySem L2
def rndN : List Str := ["script", "most", "cells", "cell"]
def rndS1 : S := .asg 2 (.sli (.var 0) .nop (.var 1))
def rndS2 : S := .ife (.cmv .eq 2 (.lst .nil)) (.cons (.asg 2 (.lst (.cons (.cst (.int 0)) .nil))) .nil) .nil
def okRound (gi : GI) (sc : Scope) (f : Nat) : List Stmt → Bool
  | [s1, s2, s3] => okS gi rndN sc rndS1 s1 && okS gi rndN sc rndS2 s2 && (match asRet s3 with
    | some x => match asLC x with
      | some z => blkC rndN sc z.scope (ownOf rndN [3]) && okE gi rndN sc (.var 2) z.iter && okT rndN z.scope (.nm 3) z.tg && z.ifs.isEmpty && okE gi rndN (relS z.scope sc) (rndE f) z.elt
      | none => false
    | none => false)
  | _ => false
theorem runRnd1 (G : Glo) (ns : List Int) (n : Int) : runS G rndS1 [.val (.scr ns), .val (.int n), .no, .no] = .ok (.nx [.val (.scr ns), .val (.int n), .own (.lst ((cut ns none (some n)).map D.int)), .no]) := by
  unfold rndS1
  simp only [runS, runE, Env.put, Env.at, E.isNop, dCut, dPart, Res.ok_bind, Res.of_some, List.getElem?_cons_zero, List.getElem?_cons_succ, Option.getD_some, List.set_cons_zero, List.set_cons_succ, Rv.d, Rv.sl, if_true, cut_map, Bool.false_eq_true, if_false]
theorem runRnd2 (G : Glo) (ns : List Int) (n : Int) : runS G rndS2 [.val (.scr ns), .val (.int n), .own (.lst ((cut ns none (some n)).map D.int)), .no] = .ok (.nx [.val (.scr ns), .val (.int n), .own (.lst ((cellsOf ns n).map D.int)), .no]) := by
  have h := runRnd G ns n
  unfold rndS at h
  rw [show runSs G (.cons (.asg 2 (.sli (.var 0) .nop (.var 1))) (.cons (.ife (.cmv .eq 2 (.lst .nil)) (.cons (.asg 2 (.lst (.cons (.cst (.int 0)) .nil))) .nil) .nil) .nil)) [.val (.scr ns), .val (.int n), .no, .no] = (runS G rndS1 [.val (.scr ns), .val (.int n), .no, .no]).bind fun f => match f with
    | .nx ρ' => runSs G (.cons rndS2 .nil) ρ'
    | f => .ok f from by simp only [runSs]; rfl, runRnd1, Res.ok_bind] at h
  simp only [runSs] at h
  obtain ⟨f, h1, h2⟩ := Res.bind_ok h
  rw [h1]
  cases f with
  | nx ρ => cases h2; rfl
  | _ => cases h2
section
variable {P : Program} {w : World} {K : PySem.W.Frag} {mg : Str → Option Value} {base : Heap} {gi : GI} {tabs : List Addr}
/-- the slots keep their number -/
def Ends.lens (D : Ends) (n : Nat) : Ends := { nx := fun σ H => σ.length = n → D.nx σ H, rt := D.rt, bk := fun σ H => σ.length = n → D.bk σ H, ct := fun σ H => σ.length = n → D.ct σ H }
theorem pss_len {X : Cx} {l : List Stmt} {t : TS} (h : PSs X l t) : PSs X l fun D σ H => t (Ends.lens D X.N.length) σ H := by
  refine ⟨fun pins s σ H D I q => thn (h.run pins s σ H _ I q) fun f s' z => ?_⟩
  cases f with
  | next => obtain ⟨σ', H', I', q'⟩ := z; exact ⟨σ', H', I', q' I'.len⟩
  | brk => obtain ⟨σ', H', I', q'⟩ := z; exact ⟨σ', H', I', q' I'.len⟩
  | cont => obtain ⟨σ', H', I', q'⟩ := z; exact ⟨σ', H', I', q' I'.len⟩
  | ret u => exact z
/-- what the program's top has left, for the small syntax -/
structure Text (K : PySem.W.Frag) (mg : Str → Option Value) (base : Heap) (tabs : List Addr) (gi : GI) (ds : List Df) (cst : Nat → Option D) (stOf : Nat → Stmt) (aOf : Nat → Addr) (fdOf : Nat → FuncData) : Prop where
  fs : gi.fs = ds.map (·.nm)
  df : ∀ (f : Nat) (d : Df), ds[f]? = some d → DfOk K mg base tabs gi d (stOf f) (aOf f) (fdOf f)
  cs : CstOk K mg gi cst
  blt : ∀ x ∈ bltNames, mg x = none
  off : gi.g = false
variable {ds : List Df} {cst : Nat → Option D} {stOf : Nat → Stmt} {aOf : Nat → Addr} {fdOf : Nat → FuncData}
theorem Text.xok (T : Text K mg base tabs gi ds cst stOf aOf fdOf) {N ps : List Str} {st : Stmt} {qual : Str} {a : Addr} {cdv : Value} {A : Around} {outer : List PySem.Env} {s : Shared} {H : Hp} {E : XK} {n : Nat} (sc : FnScope N ps (defScope st)) (dbg : ∀ x ∈ N, (x == ("__debug__" : Str)) = false ∧ (x == ("__classdict__" : Str)) = false) (hr : Room (2 * n + 1) (A.deeper (PyProof.Rows.envOfC qual (defScope st) s.heap.objs.size a cdv))) {b : Bool} (tab : b = true → ∃ c P : Addr, cdv = .ref c ∧ GxR.TabB base mg c P ∧ P ∈ tabs) :
    SOk (gi.on b) ⟨Phi ds cst n, cst⟩ tabs N (defScope st) (2 * n) (cxOf CX0 P w K mg base N qual (defScope st) a cdv A outer s H E).nox := by
  refine ⟨?_, sc.kind, PassesOwn.never⟩
  exact {
    hN := rfl
    sc := rfl
    calm := rfl
    nd := sc.nd
    dbg := dbg
    room := hr.mono (by omega)
    roomG := fun _ => hr
    code := fun h => tab h
    blt := T.blt
    fn := fun g nm hg => by
      have hg : gi.fs[g]? = some nm := hg
      rw [T.fs, List.getElem?_map] at hg
      cases e : ds[g]? with
      | none => rw [e] at hg; cases hg
      | some d' =>
        rw [e] at hg
        cases hg
        have o' := T.df g d' e
        obtain ⟨qual', F'⟩ := o'.fn
        exact ⟨o'.nmd, aOf g, fdOf g, _, o'.at', F'.kp, o'.bind, all_defs T.fs T.df T.cs T.blt n g d' e⟩
    cst := T.cs
    fnm := fun x hx => by
      rcases isLoc_iff hx with q | q
      · exact ⟨.inl q, .inr q⟩
      · exact ⟨.inr q, .inl rfl⟩ }
theorem spR_len : ∀ vs H Q E, spR K tabs vs H Q E → vs.length = 2 := fun vs H Q E ⟨B, ns, n, _, _, _, hR, _⟩ => by
  have := hR.len
  simpa using this.symm
theorem len3l {α : Type} {l : List α} (h : l.length = 3) : ∃ a b c, l = [a, b, c] := len3 h
/-- _law_rounds -/
theorem rounds_fn (T : Text K mg base tabs gi ds cst stOf aOf fdOf) {st : Stmt} {qual : Str} {a : Addr} {fd : FuncData} {n f : Nat} (F : Fun K "_law_rounds" qual st a fd) (sc : FnScope rndN ["script", "most"] (defScope st)) (ok : okRound gi (defScope st) f (defBody st) = true)
    (hdice : ∀ c, Phi ds cst n f [.val (.int c)] = .ok (.own (diceD c), [.val (.int c)])) : FnOk P w K mg base CX0 (2 * (n + 1)) a fd ["script", "most"] (spR K tabs) := by
  refine okFn (k := 2 * n + 1) F sc (fun vs H Q E h => spR_len vs H Q E h) fun A outer s H vs Q E hr h => ?_
  have eoff : gi.on false = gi := by
    have := T.off
    cases gi
    cases this
    rfl
  have so := T.xok (P := P) (w := w) (base := base) (tabs := tabs) (qual := qual) (a := a) (cdv := fd.code) (outer := outer) (H := H) (E := E) sc (by decide +kernel) hr (b := false) (fun h => by cases h)
  rw [eoff] at so
  generalize fd.code = cdv at so ⊢
  obtain ⟨B, ns, m, hB0, hBt, hra, hR, hlen, hQ⟩ := h
  have lv := spR_len (K := K) (tabs := tabs) vs H Q E ⟨B, ns, m, hB0, hBt, hra, hR, hlen, hQ⟩
  unfold okRound at ok
  split at ok
  · rename_i s1 s2 s3 e
    rw [e]
    simp only [Bool.and_eq_true] at ok
    obtain ⟨⟨o1, o2⟩, o3⟩ := ok
    cases e1 : asRet s3 with
    | none => rw [e1] at o3; cases o3
    | some x =>
      rw [e1] at o3
      obtain ⟨p, rfl⟩ := asRet_some e1
      simp only at o3
      cases e2 : asLC x with
      | none => rw [e2] at o3; cases o3
      | some z =>
        rw [e2] at o3
        simp only [Bool.and_eq_true] at o3
        obtain ⟨pos, rfl⟩ := asLC_some e2
        obtain ⟨⟨⟨⟨h1, h2⟩, h3⟩, h4⟩, h5⟩ := o3
        have hz : z.ifs = [] := by simpa using h4
        have ob := fun s H C cl fp => so.x.blk z.scope s H C cl fp
        have q := pe_lc (X := (cxOf CX0 P w K mg base rndN qual (defScope st) a cdv A outer s H E).nox) (pos := pos) (own := ownOf rndN [3]) (tg := z.tg) (elt := z.elt) (te := tE K B (runE ⟨Phi ds cst n, cst⟩ (rndE f))) (tt := tCnd K B ⟨Phi ds cst n, cst⟩ .nop) (g := gD K B (.nm 3)) rfl sc.nd (pi_list ((allE (.var 2)).se so.x z.iter h2 B hBt)) (blkOk_by h1) (fun s H C cl fp => pg_ok (ob s H C cl fp) B (.nm 3) z.tg h3) (fun s H C cl fp => snd_ifs (c := .nop) (ifs := z.ifs) (by rw [hz]; rfl) ((allE .nop).st (ob s H C cl fp)) B hBt) (fun s H C cl fp => (allE (rndE f)).se (ob s H C cl fp) z.elt h5 B hBt) (notsetI (by cases e9 : z.iter <;> rw [e9] at h2 <;> first | rfl | (simp [okE, okV, asName] at h2)) _)
        rw [own_slots] at q
        refine ⟨_, pss_cons (allS so rndS1 s1 o1 B hBt) (pss_cons (allS so rndS2 s2 o2 B hBt) (pss_one (ps_ret q))), ?_⟩
        obtain ⟨v1, v2, rfl⟩ := len2 lv
        refine ⟨[.val (.scr ns), .val (.int m), .no, .no], [], [], _, ?_, rfl, runRnd1 _ ns m, fun σ1 H1 l1 R1 => ?_⟩
        · show R K B _ _ H
          have q9 := hR.pushNos 2
          simpa [L2.start, rndN] using q9
        · refine ⟨_, [], [], _, R1, l1, runRnd2 _ ns m, fun σ2 H2 l2 R2 => ?_⟩
          rw [List.append_nil, List.append_nil] at R2
          have s2l : σ2.length = 4 := by have := R2.len; simpa using this.symm
          refine rounds_read (X := (cxOf CX0 P w K mg base rndN qual (defScope st) a cdv A outer s H E).nox) (G := ⟨Phi ds cst n, cst⟩) (N := rndN) (sc := defScope st) (k := 2 * n) (cs := cellsOf ns m) s2l hdice hra rfl rfl rfl R2 hlen fun v as H' la R3 => ?_
          refine hQ v as H' la ?_
          refine R3.sel (fun j => if j < 2 then j else j + 2) ?_ (fun j t ht => ?_) (fun i j s1 t1 g1 g2 o1 o2 e => ?_) (fun j d hd => ?_) fun j d hd => ?_
          · simp [ownDice, la]
          · rcases getA ht with ⟨hj, g⟩ | ⟨hj, g⟩
            · left
              have hj : j < 2 := hj
              match j, hj, g with
              | 0, _, g => cases g; rfl
              | 1, _, g => cases g; rfl
            · right
              have hj : 2 ≤ j := hj
              rw [if_neg (by omega)]
              constructor
              · rw [List.getElem?_append_right (by simp; omega)]
                simp only [List.length_set, List.length_cons, List.length_nil]
                rw [show j + 2 - (0 + 1 + 1 + 1 + 1) = j - 2 by omega]
                exact g
              · rw [List.getElem?_append_right (by simp; omega), List.getElem?_append_right (by omega), s2l]
                simp only [List.length_map, List.length_cons, List.length_nil]
                rw [show j + 2 - 4 = j - (0 + 1 + 1) by omega]
          · split at e <;> split at e <;> omega
          · rcases getA hd with ⟨hj, g⟩ | ⟨hj, g⟩
            · have hj : j < 2 := hj
              rw [if_pos hj]
            · exfalso
              rcases List.mem_cons.mp (List.mem_of_getElem? g) with z | z
              · cases z
              · unfold ownDice at z
                obtain ⟨_, _, z⟩ := List.mem_map.mp z
                cases z
          · exfalso
            rcases getA hd with ⟨hj, g⟩ | ⟨hj, g⟩
            · have hj : j < 4 := hj
              match j, hj, g with
              | 0, _, g => cases g
              | 1, _, g => cases g
              | 2, _, g => cases g
              | 3, _, g => cases g
            · rcases List.mem_cons.mp (List.mem_of_getElem? g) with z | z
              · cases z
              · unfold ownDice at z
                obtain ⟨_, _, z⟩ := List.mem_map.mp z
                cases z
  · cases ok
/-! ### the law itself -/
def spL (K : PySem.W.Frag) (tabs : List Addr) : Sp := fun vs H Q _ => ∃ (a : Addr) (ns : List Int), vs = [.ref a] ∧ Rp K (fun _ => False) H (.ref a) (.scr ns) ∧ (∀ t ∈ tabs, TabG H t) ∧ ns.length ≤ 63 ∧ ∀ H', Q (.bl true) H'
def okLaw (gi : GI) (N : List Str) (sc : Scope) (n : Int) (b : Ss) (e : E) : List Stmt → Bool
  | [s1, s2] => (match asFor s1 with
    | some (tg, it, body) => okT N sc (.nm 1) tg && (match asCall it with
      | some (g, [x, y]) => decide (g = ("_law_rounds" : Str)) && isGl sc g && okV N sc 0 x && okE gi N sc (.cst (.int n)) y
      | _ => false) && okSs gi N sc b body
    | none => false) && okS gi N sc (.ret e) s2
  | _ => false
/-- what a law's loop and its last row give -/
def LawRuns (G : Glo) (nn : Nat) (n : Int) (b : Ss) (e : E) (ns : List Int) : Prop := ∃ ρ' ρ'' : Env, loopL G 1 b (cellsOf ns n) (.val (.scr ns) :: List.replicate (nn - 1) .no) = .ok ρ' ∧ runE G e ρ' = .ok (.val (.bl true), ρ'')
theorem cellsOf_len (ns : List Int) (n : Int) (h : ns.length ≤ 63) : (cellsOf ns n).length ≤ 1000 := by
  unfold cellsOf
  split
  · simp
  · unfold cut
    rw [List.length_take, List.length_drop]
    omega
theorem law_fn (T : Text K mg base tabs gi ds cst stOf aOf fdOf) {st : Stmt} {qual : Str} {a aR : Addr} {fd fdR : FuncData} {nn f nc : Nat} {N : List Str} {n : Int} {b : Ss} {e : E} (F : Fun K "law" qual st a fd) (sc : FnScope N ["script"] (defScope st)) (dbg : ∀ x ∈ N, (x == ("__debug__" : Str)) = false ∧ (x == ("__classdict__" : Str)) = false)
    (hN : N.length = nn + 2) {lg : Bool} (tab : lg = true → ∃ c P : Addr, fd.code = .ref c ∧ GxR.TabB base mg c P ∧ P ∈ tabs) (ok : okLaw (gi.on lg) N (defScope st) n b e (defBody st) = true) (mR : mg "_law_rounds" = some (.ref aR)) (kR : PySem.W.keepIn K (.ref aR) = true) (bR : Binds K fdR ["script", "most"] []) (FR : FnOk P w K mg base CX0 (2 * nc) aR fdR ["script", "most"] (spR K tabs))
    (hsem : ∀ ns : List Int, ns.length ≤ 63 → LawRuns ⟨Phi ds cst nc, cst⟩ (nn + 2) n b e ns) : FnOk P w K mg base CX0 (2 * (nc + 1)) a fd ["script"] (spL K tabs) := by
  refine okFn (k := 2 * nc + 1) F sc (fun vs H Q E ⟨_, _, h, _⟩ => by rw [h]; rfl) fun A outer s H vs Q E hr h => ?_
  have so := T.xok (P := P) (w := w) (base := base) (tabs := tabs) (qual := qual) (a := a) (cdv := fd.code) (outer := outer) (H := H) (E := E) sc dbg hr tab
  generalize fd.code = cdv at so ⊢
  obtain ⟨sa, ns, rfl, hscr, htab, hlen, hQ⟩ := h
  unfold okLaw at ok
  split at ok
  · rename_i s1 s2 e0
    rw [e0]
    simp only [Bool.and_eq_true] at ok
    obtain ⟨o1, o2⟩ := ok
    cases e1 : asFor s1 with
    | none => rw [e1] at o1; cases o1
    | some zz =>
      obtain ⟨tg, it, body⟩ := zz
      rw [e1] at o1
      obtain ⟨p, rfl⟩ := asFor_some e1
      simp only [Bool.and_eq_true] at o1
      obtain ⟨⟨ht, hc⟩, hb⟩ := o1
      split at hc
      · rename_i g x y e2
        simp only [Bool.and_eq_true, decide_eq_true_eq] at hc
        obtain ⟨p2, pos2, rfl⟩ := asCall_some e2
        obtain ⟨⟨⟨rfl, hg⟩, hx⟩, hy⟩ := hc
        -- the base of the whole
        let B : Bs := ⟨H, none, tabs, fun _ => False, fun _ => none⟩
        have R0 : R K B [.val (.scr ns)] [some (.ref sa)] H := by
          have mm : ∀ a, Mt B.Z [Sl.val (.scr ns)] [some (V.ref sa)] a → False := fun a m => m.elim (fun z => z) fun ⟨j, s, h1, h2, _⟩ => by
            match j, h1 with
            | 0, h1 => cases h1; exact h2
          refine ⟨rfl, fun j d h1 => ?_, fun j d h1 => ?_, fun j d h1 => ?_, fun j a h1 => (by cases j <;> cases h1), fun i j s t a h1 _ o1 => ?_, ⟨fun a o h _ _ => h, fun a ps h => ⟨ps, h⟩⟩, htab, fun a z => z.elim, fun j s a h1 o1 => ?_, fun a o z => (by cases z)⟩
          · match j, h1 with
            | 0, h1 => cases h1; exact ⟨_, rfl, rp_congr (fun a m => (mm a m).elim) hscr⟩
          · match j, h1 with
            | 0, h1 => cases h1
          · match j, h1 with
            | 0, h1 => cases h1
          · match i, h1 with
            | 0, h1 => cases h1; exact o1.elim
          · match j, h1 with
            | 0, h1 => cases h1; exact o1.elim
        obtain ⟨ρF, ρG, hloop, hend⟩ := hsem ns hlen
        have hst : isStar x = false := (okV_set hx).2
        have pcall := pe_call (X := (cxOf CX0 P w K mg base N qual (defScope st) a cdv A outer s H E).nox) (p := p2) (pos := pos2) FR so.x.room (so.x.gl hg) mR kR bR .nil pass0 (pa_cons (so.x.var hx) (pa_cons ((allE (.cst (.int n))).se so.x y hy B rfl) pa_nil (star_of (by
          cases e9 : y <;> rw [e9] at hy <;> first | rfl | (simp [okE, asConst] at hy)))) (star_of hst)) (by decide +kernel) (star_of hst) (by
          show (backTo pos2 (starEach [y] _)).any (·.1) = false
          rw [star_of (by cases e9 : y <;> rw [e9] at hy <;> first | rfl | (simp [okE, asConst] at hy))]
          rfl)
        have hN0 : N[1]? ≠ none := by
          intro z
          rw [List.getElem?_eq_none_iff] at z
          omega
        obtain ⟨py, pt, htg, hNy, hloc⟩ : ∃ (yn : Str) (pp : Pos), tg = .Name yn pp ∧ N[1]? = some yn ∧ isLoc (defScope st) yn = true := by
          simp only [okT] at ht
          cases e9 : asName tg with
          | none => rw [e9] at ht; cases ht
          | some yn =>
            rw [e9] at ht
            simp only [Bool.and_eq_true, decide_eq_true_eq] at ht
            obtain ⟨pp, rfl⟩ := asName_some e9
            exact ⟨yn, pp, rfl, ht.1, ht.2⟩
        subst htg
        have hfl := so.x.fnm py hloc
        refine ⟨_, pss_cons (ps_for so.hp rfl (pi_list pcall) (pg_name (i := 1) sc.nd hNy hfl.1 hfl.2) (pss_len (allSs so b body hb B rfl)) (fun _ => rfl)) (pss_one (allS so (.ret e) s2 o2 B rfl)), ?_⟩
        -- _law_rounds(script, n)
        let ρ0 : Env := .val (.scr ns) :: List.replicate (nn + 1) .no
        have Rs : R K B ρ0 (L2.start N [.ref sa]) H := by
          have q := R0.pushNos (nn + 1)
          have es : L2.start N [.ref sa] = [some (.ref sa)] ++ List.replicate (nn + 1) none := by
            unfold L2.start
            rw [hN]
            rfl
          rw [es]
          exact q
        have ls : (L2.start N [V.ref sa]).length = nn + 2 := by have := Rs.len; simp [ρ0] at this; omega
        refine ⟨.ref sa, ?_, ρ0, [], [], .val (.int n), ρ0, (by rw [List.append_nil, List.append_nil]; exact Rs), by simp [ρ0, ls], rfl, fun v H1 R1 => ?_⟩
        · have := Rs.val 0 (.scr ns) rfl
          obtain ⟨v, h1, h2⟩ := this
          show (L2.start N [V.ref sa])[0]? = _
          unfold L2.start
          rfl
        · simp only [List.append_nil, Rv.sl] at R1
          obtain ⟨q0, q1⟩ := R1.take1 (r := .val (.int n))
          have ev : v = .int n := q1.intV
          subst ev
          obtain ⟨u, k1, k2⟩ := q0.val 0 (.scr ns) rfl
          have eu : u = .ref sa := by
            have : (L2.start N [V.ref sa])[0]? = some (some (V.ref sa)) := by unfold L2.start; rfl
            rw [this] at k1; cases k1; rfl
          subst eu
          refine ⟨⟨H1, none, tabs, Mt B.Z ρ0 (L2.start N [V.ref sa]), fun _ => none⟩, ns, n, rfl, rfl, rfl, ?_, cellsOf_len ns n hlen, fun v as H2 la R2 => ?_⟩
          · exact q0.entry (us := [.ref sa, .int n]) (ds := [.scr ns, .int n]) (.cons k2 (.cons (.int n) .nil))
          · have R3 := q0.backs R2 (by rfl) (fun t ht d e => by
              subst e
              rcases List.mem_cons.mp ht with z | z
              · cases z
              · unfold ownDice at z
                obtain ⟨_, _, z⟩ := List.mem_map.mp z
                cases z)
            obtain ⟨pL, k3, k4, _⟩ := R3.own (nn + 2) (.lst (as.map D.adr)) (by
              rw [List.getElem?_append_right (by simp [ρ0]), show nn + 2 - ρ0.length = 0 by simp [ρ0]]
              rfl)
            rw [List.getElem?_append_right (by rw [ls]; exact Nat.le_refl _), ls, Nat.sub_self] at k3
            cases k3
            obtain ⟨xs, k5, k6⟩ := k4
            have adr_eq : ∀ {M : Addr → Prop} {H : Hp} {xs : List V} {as : List Addr}, RpA K M H xs (as.map D.adr) → xs = as.map V.ref := fun {M H xs as} r => by
              induction as generalizing xs with
              | nil => cases r; rfl
              | cons a as ih =>
                cases r with
                | cons h t => rw [h.adrV, ih t]; rfl
            refine ⟨pL, rfl, ⟨xs, .inl (.inl k5)⟩, fun i m σ H => m = (cellsOf ns n).length - i ∧ i ≤ (cellsOf ns n).length ∧ ∃ ρi : Env, ρi.length = nn + 2 ∧ σ.length = nn + 2 ∧ R K B (ρi ++ (.own (.lst (as.map D.adr)) :: ownDice ((cellsOf ns n).drop i))) (σ ++ (some (.ref pL) :: (as.drop i).map fun a => some (V.ref a))) H ∧ loopL ⟨Phi ds cst nc, cst⟩ 1 b ((cellsOf ns n).drop i) ρi = .ok ρF, ⟨_, rfl, Nat.zero_le _, ρ0, by simp [ρ0], ls, R3, hloop⟩, ?_⟩
            rintro i m σ5 H5 ⟨rfl, hi, ρi, li, lσ, R5, gl⟩
            obtain ⟨pL', j3, j4, _⟩ := R5.own (nn + 2) (.lst (as.map D.adr)) (by
              rw [List.getElem?_append_right (by omega), show nn + 2 - ρi.length = 0 by omega]
              rfl)
            rw [List.getElem?_append_right (by omega), lσ, Nat.sub_self] at j3
            cases j3
            obtain ⟨ys, j5, j6⟩ := j4
            have ey := adr_eq j6
            by_cases hlt : i < (cellsOf ns n).length
            · right
              have hai : i < as.length := by omega
              have hyi : ys[i]? = some (.ref as[i]) := by rw [ey, List.getElem?_map, List.getElem?_eq_getElem hai]; rfl
              have hdr : (cellsOf ns n).drop i = (cellsOf ns n)[i] :: (cellsOf ns n).drop (i + 1) := List.drop_eq_getElem_cons hlt
              have hda : as.drop i = as[i] :: as.drop (i + 1) := List.drop_eq_getElem_cons hai
              rw [hdr] at gl R5
              rw [hda] at R5
              obtain ⟨f1, g1, gl⟩ : ∃ f1, runSs ⟨Phi ds cst nc, cst⟩ b (ρi.set 1 (.own (diceD (cellsOf ns n)[i]))) = .ok f1 ∧ (match f1 with
                | .nx ρ' => loopL ⟨Phi ds cst nc, cst⟩ 1 b ((cellsOf ns n).drop (i + 1)) ρ'
                | .ct ρ' => loopL ⟨Phi ds cst nc, cst⟩ 1 b ((cellsOf ns n).drop (i + 1)) ρ'
                | _ => .stuck) = .ok ρF := by
                exact Res.bind_ok gl
              refine ⟨⟨ys, _, .inl (.inl j5), hyi⟩, fun σ' H' => ∃ ρi : Env, ρi.length = nn + 2 ∧ σ'.length = nn + 2 ∧ R K B (ρi ++ (.own (.lst (as.map D.adr)) :: ownDice ((cellsOf ns n).drop (i + 1)))) (σ' ++ (some (.ref pL) :: (as.drop (i + 1)).map fun a => some (V.ref a))) H' ∧ loopL ⟨Phi ds cst nc, cst⟩ 1 b ((cellsOf ns n).drop (i + 1)) ρi = .ok ρF, fun σ' H' ⟨ρi', q1, q2, q3, q4⟩ => ⟨(cellsOf ns n).length - (i + 1), by omega, rfl, hlt, ρi', q1, q2, q3, q4⟩, fun x H' y => ?_⟩
              obtain ⟨rfl, y⟩ := y
              have hx2 := y ys (.inl (.inl j5))
              rw [hyi] at hx2
              cases hx2
              -- dice = ..
              have R6 : R K B (ρi.set 1 (.own (diceD (cellsOf ns n)[i])) ++ (.own (.lst (as.map D.adr)) :: ownDice ((cellsOf ns n).drop (i + 1)))) (σ5.set 1 (some (.ref as[i])) ++ (some (.ref pL) :: (as.drop (i + 1)).map fun a => some (V.ref a))) H' := by
                refine R5.sel (fun j => if j = 1 then nn + 3 else if j < nn + 3 then j else j + 1) ?_ (fun j t ht => .inr ?_) (fun i1 j1 s1 t1 g1 g2 o1 o2 e => ?_) (fun j d hd => ?_) fun j d hd => ?_
                · have := R5.len
                  simp [ownDice] at this ⊢
                  omega
                · by_cases hj1 : j = 1
                  · subst hj1
                    rw [if_pos rfl]
                    rw [List.getElem?_append_left (by simp; omega), List.getElem?_set_self (by omega)] at ht
                    cases ht
                    constructor
                    · rw [List.getElem?_append_right (by omega), show nn + 3 - ρi.length = 1 by omega]
                      rfl
                    · rw [List.getElem?_append_left (by simp; omega), List.getElem?_set_self (by omega), List.getElem?_append_right (by omega), show nn + 3 - σ5.length = 1 by omega]
                      rfl
                  · rw [if_neg hj1]
                    by_cases hj2 : j < nn + 2
                    · rw [if_pos (by omega)]
                      rw [List.getElem?_append_left (by simp; omega), List.getElem?_set_ne (Ne.symm hj1)] at ht
                      constructor
                      · rw [List.getElem?_append_left (by omega)]; exact ht
                      · rw [List.getElem?_append_left (by simp; omega), List.getElem?_set_ne (Ne.symm hj1), List.getElem?_append_left (by omega)]
                    · rw [List.getElem?_append_right (by simp; omega)] at ht
                      simp only [List.length_set] at ht
                      by_cases hj3 : j < nn + 3
                      · rw [if_pos hj3]
                        have : j = nn + 2 := by omega
                        subst this
                        rw [show nn + 2 - ρi.length = 0 by omega] at ht
                        constructor
                        · rw [List.getElem?_append_right (by omega), show nn + 2 - ρi.length = 0 by omega]; exact ht
                        · rw [List.getElem?_append_right (by simp; omega), List.getElem?_append_right (by omega), List.length_set]
                          rw [show nn + 2 - σ5.length = 0 by omega]; rfl
                      · rw [if_neg hj3]
                        obtain ⟨k, rfl⟩ : ∃ k, j = nn + 3 + k := ⟨j - (nn + 3), by omega⟩
                        rw [show nn + 3 + k - ρi.length = k + 1 by omega, List.getElem?_cons_succ] at ht
                        constructor
                        · rw [List.getElem?_append_right (by omega), show nn + 3 + k + 1 - ρi.length = k + 1 + 1 by omega]
                          exact ht
                        · rw [List.getElem?_append_right (by simp; omega), List.getElem?_append_right (by omega), List.length_set, show nn + 3 + k - σ5.length = k + 1 by omega, show nn + 3 + k + 1 - σ5.length = k + 1 + 1 by omega]
                          rfl
                · have q1 : i1 = 1 → j1 ≠ 1 → False := fun h1 h2 => by
                    subst h1
                    rw [if_pos rfl, if_neg h2] at e
                    split at e <;> omega
                  have q2 : j1 = 1 → i1 ≠ 1 → False := fun h1 h2 => by
                    subst h1
                    rw [if_pos rfl, if_neg h2] at e
                    split at e <;> omega
                  by_cases h1 : i1 = 1 <;> by_cases h2 : j1 = 1
                  · omega
                  · exact (q1 h1 h2).elim
                  · exact (q2 h2 h1).elim
                  · rw [if_neg h1, if_neg h2] at e
                    split at e <;> split at e <;> omega
                · exfalso
                  obtain ⟨aa, z, _⟩ : ∃ aa, B.ra j = some aa ∧ True := by
                    by_cases hj : j = 1
                    · subst hj
                      rw [List.getElem?_append_left (by simp; omega), List.getElem?_set_self (by omega)] at hd
                      cases hd
                    · by_cases hj2 : j < nn + 2
                      · rw [List.getElem?_append_left (by simp; omega), List.getElem?_set_ne (Ne.symm hj)] at hd
                        obtain ⟨aa, z, _⟩ := R5.ref j d (getL hd)
                        exact ⟨aa, z, trivial⟩
                      · rw [List.getElem?_append_right (by simp; omega)] at hd
                        rcases List.mem_cons.mp (List.mem_of_getElem? hd) with z | z
                        · cases z
                        · unfold ownDice at z
                          obtain ⟨_, _, z⟩ := List.mem_map.mp z
                          cases z
                  cases j <;> cases z
                · exfalso
                  obtain ⟨aa, z, _⟩ := R5.ref j d hd
                  cases j <;> cases z
              refine ⟨ρi.set 1 (.own (diceD (cellsOf ns n)[i])), _, _, f1, R6, by simp [li, lσ], g1, ?_⟩
              have fin : ∀ (ρ' : Env), loopL ⟨Phi ds cst nc, cst⟩ 1 b ((cellsOf ns n).drop (i + 1)) ρ' = .ok ρF → ∀ (σ' : List (Option V)) (H' : Hp), ρ'.length = σ'.length → R K B (ρ' ++ (.own (.lst (as.map D.adr)) :: ownDice ((cellsOf ns n).drop (i + 1)))) (σ' ++ (some (.ref pL) :: (as.drop (i + 1)).map fun a => some (V.ref a))) H' → σ'.length = (cxOf CX0 P w K mg base N qual (defScope st) a cdv A outer s H E).nox.N.length → ∃ ρi : Env, ρi.length = nn + 2 ∧ σ'.length = nn + 2 ∧ R K B (ρi ++ (.own (.lst (as.map D.adr)) :: ownDice ((cellsOf ns n).drop (i + 1)))) (σ' ++ (some (.ref pL) :: (as.drop (i + 1)).map fun a => some (V.ref a))) H' ∧ loopL ⟨Phi ds cst nc, cst⟩ 1 b ((cellsOf ns n).drop (i + 1)) ρi = .ok ρF := fun ρ' q σ' H' lq Rq hl => by
                have hl : σ'.length = N.length := hl
                exact ⟨ρ', by omega, by omega, Rq, q⟩
              cases f1 with
              | nx ρ' => exact fin ρ' gl
              | ct ρ' => exact fin ρ' gl
              | bk ρ' => cases gl
              | rt r ρ' => cases gl
            · left
              have ei : i = (cellsOf ns n).length := by omega
              subst ei
              rw [List.drop_length] at gl R5
              have gl : ρi = ρF := by cases gl; rfl
              subst gl
              refine ⟨⟨ys, .inl (.inl j5), by rw [ey, List.length_map]; omega⟩, ?_⟩
              refine ⟨ρi, _, _, .rt (.val (.bl true)) ρG, R5, (by omega), (by simp only [runS, hend, Res.ok_bind]), fun σ' v H' lq Rq => ?_⟩
              obtain ⟨_, q⟩ := Rq.take1 (r := .val (.bl true))
              have : v = .bl true := q.blV
              subst this
              exact hQ H'
      · cases hc
  · cases ok
end
end Gw

set_option Elab.async false
set_option linter.all false
set_option maxRecDepth 100000
set_option maxHeartbeats 4000000
/-! The value layer: the end, with the tables of the defs that hold generator expressions. -/
namespace Gw
open PySem PySem.Spec PyProof.Rows L2
/-- the tables of the defs are empty -/
def TabsIn (q : Program) (K : PySem.W.Frag) (mg : Str → Option Value) (h : Heap) : Prop := ∀ (x : Str) (f c P : Addr) (o : Obj) (fd : FuncData) (e : Value) (dd : Option Addr) (vs : Array Value) (sl : Array (Option Value)), ((recsOf q).any fun e => e.name == x) = true → mg x = some (.ref f) → K.lookup f = some o → o.data = .func fd → fd.code = .ref c →
  K.lookup c = some ⟨e, dd, .fields vs, sl⟩ → vs[11]? = some (.ref P) → PySem.W.CodeHd h c P ∧ h.get? P = some { cls := .none, data := .fields #[] }
theorem walk_ofG {l : PySem.W.OpenLaw} {n k : Nat} {q : Program} {loose : List Str} {XP : (Str → Option Value) → Heap → Prop} {YP : World → Heap → Prop} {d : DefRec} {K : Params → PySem.W.Frag} {CX : World → CXT} {x : Str}
    (hn : l.most = some n) (hn2 : n ≤ sizeLine) (hdf : d.params.defaults = []) (hr : Room k callerA) (hY : ∀ (w : World) (h : Heap), YP w h → (K w.params).In h)
    (F : ∀ (w : World) (mg : Str → Option Value) (fa : Addr) (h : Heap), (K w.params).In h → h.Ns mainGlobals mg → mg d.name = some (.ref fa) → TabsIn q (K w.params) mg h → LamX.LawAtS l w (K w.params) (CX w) k n x mg fa h)
    (hCX : ∀ (w : World) (H : Hp) (s : Shared) (e : Value) (s' : Shared), CX w [] H s (fun _ _ _ => False) e s' → False) :
    PySem.W.WalkO q loose XP YP l.row.toRowW d [] (fun f vs => PySem.call f vs) := by
  refine Att.attach_callB hn hdf fun w s₀ s₁ mg mb fa o pm cd doc a vs ns G Y ho hd hcd hmg hobj hints hlen hbits hg => ?_
  have KX := hY w _ Y
  have tin : TabsIn q (K w.params) mg s₁.heap := fun x f c P o1 fd1 e dd vs1 sl hrec hmx k1 k2 k3 k4 k5 => by
    obtain ⟨dL, hm, hn1⟩ := List.any_eq_true.mp hrec
    have hn2 : dL.name = x := beq_iff_eq.mp hn1
    obtain ⟨a', o', fd', c', P', h1, h2, h3, h4, h5, h6⟩ := G.T.tab dL hm
    rw [hn2, hmx] at h1
    cases h1
    have g1 := KX _ _ k1
    rw [g1] at h2
    cases h2
    rw [k2] at h3
    cases h3
    rw [k3] at h4
    cases h4
    have h6' := h6
    obtain ⟨⟨oc, vc, e1, _, e3, e4⟩, hP⟩ := h6
    have g2 := KX _ _ k4
    rw [g2] at e1
    cases e1
    cases e3
    rw [k5] at e4
    cases e4
    exact ⟨PySem.W.CodeHd.of h5 h6', hP⟩
  obtain ⟨fd, cs, sp, hT, nT, C, hb, hsp, hF⟩ := F w mg fa _ KX G.T.g hmg tin
  exact LamX.law_callTs KX G.T.g G.T.b G.T.builtins G.T.nolimit hg hT nT C G.T.bmain hobj hints (Nat.le_trans hlen hn2) hr hF hb (fun H hH hS => hsp H a ns hlen hbits hH hS) fun H e s' => hCX w H s₁ e s'
theorem start_okG {K : PySem.W.Frag} {cs : List (Addr × Addr)} (H : Hp) (a : Addr) (ns : List Int) (hl : ns.length ≤ 63) (hT : ∀ p ∈ cs, H p.2 = some (.tbl #[])) (hS : SqL K H a (ns.map V.int)) : spL K (cs.map (·.2)) [.ref a] H (fun v _ => v = .bl true) fun _ _ _ => False := by
  refine ⟨a, ns, rfl, .scr ?_, fun t ht => ?_, hl, fun _ => rfl⟩
  · rcases hS with h | h
    · exact .inl ⟨h, fun m => m⟩
    · exact .inr h
  · obtain ⟨p, hp, rfl⟩ := List.mem_map.mp ht
    exact ⟨#[], hT p hp, trivial⟩
theorem TabB_of {base : Heap} {mg : Str → Option Value} {c P : Addr} (h : LamX.TabB base mg c P) : GxR.TabB base mg c P := ⟨h.code, h.bm, h.gP⟩
end Gw

set_option Elab.async false
set_option linter.all false
set_option maxRecDepth 100000
set_option maxHeartbeats 1000000
/-! The small syntax, step by step: rules to run it with letters. Plain Lean. -/
namespace Gw
def Sl.isRef : Sl → Bool
  | .ref _ => true
  | _ => false
def sel {α : Type} : Bool → α → α → α
  | true, x, _ => x
  | false, _, y => y
def seqS (G : Glo) (ss : Ss) : Fl → Res Fl
  | .nx ρ' => runSs G ss ρ'
  | .rt d ρ' => .ok (.rt d ρ')
  | .bk ρ' => .ok (.bk ρ')
  | .ct ρ' => .ok (.ct ρ')
def seqW (C : Env → Res (Bool × Env)) (B : Env → Res Fl) (n : Nat) : Fl → Res Fl
  | .nx ρ' => loopW C B n ρ'
  | .ct ρ' => loopW C B n ρ'
  | .bk ρ' => .ok (.nx ρ')
  | .rt d ρ' => .ok (.rt d ρ')
section
variable {G : Glo} {ρ ρ1 ρ2 ρ3 : Env} {a b c e k : E} {es : Es} {x y z r : Rv} {d d1 d2 : D} {i j : Nat} {t : Bool}
theorem ev_cst : runE G (.cst d) ρ = .ok (.val d, ρ) := by simp only [runE]
theorem ev_var (h : ρ.at i = .val d) : runE G (.var i) ρ = .ok (.val d, ρ) := by simp only [runE, h]
theorem ev_own (h : ρ.at i = .own d) (h2 : ρ.set i (.val d) = ρ1) : runE G (.var i) ρ = .ok (.val d, ρ1) := by simp only [runE, h, h2]
theorem ev_glb (h : G.cst i = some d) : runE G (.glb i) ρ = .ok (.val d, ρ) := by simp only [runE, h, Res.of_some, Res.ok_bind]
theorem ev_bin {op : Bop} (h1 : runE G a ρ = .ok (x, ρ1)) (h2 : runE G b ρ1 = .ok (y, ρ2)) (h3 : dBin op x.d y.d = some r) : runE G (.bin op a b) ρ = .ok (r, ρ2) := by simp only [runE, h1, h2, h3, Res.of_some, Res.ok_bind]
theorem ev_neg (h1 : runE G a ρ = .ok (x, ρ1)) (h3 : dNeg x.d = some r) : runE G (.neg a) ρ = .ok (r, ρ1) := by simp only [runE, h1, h3, Res.of_some, Res.ok_bind]
theorem ev_cmp {op : Cop} (h1 : runE G a ρ = .ok (x, ρ1)) (h2 : runE G b ρ1 = .ok (y, ρ2)) (h3 : dCmp op x.d y.d = some t) : runE G (.cmp op a b) ρ = .ok (.val (.bl t), ρ2) := by simp only [runE, h1, h2, h3, Res.of_some, Res.ok_bind]
theorem ev_chn {op op' : Cop} {R : Res (Rv × Env)} (h1 : runE G a ρ = .ok (x, ρ1)) (h2 : runE G b ρ1 = .ok (y, ρ2)) (h3 : dCmp op x.d y.d = some t) (h4 : sel t ((runE G c ρ2).bind fun z => (Res.of (dCmp op' y.d z.1.d)).bind fun r' => .ok (.val (.bl r'), z.2)) (.ok (.val (.bl false), ρ2)) = R) : runE G (.chn op op' a b c) ρ = R := by
  simp only [runE, h1, h2, h3, Res.of_some, Res.ok_bind]
  rw [← h4]
  cases t <;> rfl
theorem ev_chn2 {op' : Cop} (h1 : runE G c ρ2 = .ok (z, ρ3)) (h2 : dCmp op' y.d z.d = some t) : ((runE G c ρ2).bind fun z => (Res.of (dCmp op' y.d z.1.d)).bind fun r' => .ok (.val (.bl r'), z.2) : Res (Rv × Env)) = .ok (.val (.bl t), ρ3) := by simp only [h1, h2, Res.of_some, Res.ok_bind]
theorem ev_and {R : Res (Rv × Env)} (h1 : runE G a ρ = .ok (x, ρ1)) (h2 : dTruth x.d = some t) (h3 : sel t (runE G b ρ1) (.ok (x, ρ1)) = R) : runE G (.and a b) ρ = R := by
  simp only [runE, h1, h2, Res.of_some, Res.ok_bind]
  rw [← h3]
  cases t <;> rfl
theorem ev_or {R : Res (Rv × Env)} (h1 : runE G a ρ = .ok (x, ρ1)) (h2 : dTruth x.d = some t) (h3 : sel t (.ok (x, ρ1)) (runE G b ρ1) = R) : runE G (.or a b) ρ = R := by
  simp only [runE, h1, h2, Res.of_some, Res.ok_bind]
  rw [← h3]
  cases t <;> rfl
theorem ev_not (h1 : runE G a ρ = .ok (x, ρ1)) (h2 : dTruth x.d = some t) : runE G (.not a) ρ = .ok (.val (.bl (!t)), ρ1) := by simp only [runE, h1, h2, Res.of_some, Res.ok_bind]
theorem ev_ite {R : Res (Rv × Env)} (h1 : runE G c ρ = .ok (x, ρ1)) (h2 : dTruth x.d = some t) (h3 : sel t (runE G a ρ1) (runE G b ρ1) = R) : runE G (.ite c a b) ρ = R := by
  simp only [runE, h1, h2, Res.of_some, Res.ok_bind]
  rw [← h3]
  cases t <;> rfl
/-- a test that is known -/
theorem m_t {α : Type} {X Y R : α} (h : t = true) (h2 : X = R) : sel t (X) (Y) = R := by subst h; exact h2
theorem m_f {α : Type} {X Y R : α} (h : t = false) (h2 : Y = R) : sel t (X) (Y) = R := by subst h; exact h2
theorem ev_tup {rs : List Rv} (h1 : runEs G es ρ = .ok (rs, ρ1)) (h2 : rs.length ≤ 16777216) {l : List D} (h3 : rs.map Rv.d = l) : runE G (.tup es) ρ = .ok (.val (.tup l), ρ1) := by
  subst h3
  simp only [runE, h1, Res.ok_bind, lineOk, decide_eq_true h2, if_true]
theorem ev_lst {rs : List Rv} (h1 : runEs G es ρ = .ok (rs, ρ1)) (h2 : rs.length ≤ 16777216) {l : List D} (h3 : rs.map Rv.d = l) : runE G (.lst es) ρ = .ok (.own (.lst l), ρ1) := by
  subst h3
  simp only [runE, h1, Res.ok_bind, lineOk, decide_eq_true h2, if_true]
theorem ev_idx (h1 : runE G a ρ = .ok (x, ρ1)) (h2 : runE G b ρ1 = .ok (y, ρ2)) (h3 : dIdx x.d y.d = some d) : runE G (.idx a b) ρ = .ok (.val d, ρ2) := by simp only [runE, h1, h2, h3, Res.of_some, Res.ok_bind]
theorem ev_idv (h0 : (ρ.at i).d? = some d1) (h1 : runE G b ρ = .ok (y, ρ1)) (h2 : (ρ1.at i).d? = some d2) (h3 : dIdx d2 y.d = some d) : runE G (.idv i b) ρ = .ok (.val d, ρ1) := by simp only [runE, h0, h1, h2, h3, Res.of_some, Res.ok_bind]
theorem ev_sli0 (h1 : runE G a ρ = .ok (x, ρ1)) (h2 : dCut x.d none none = some r) : runE G (.sli a .nop .nop) ρ = .ok (r, ρ1) := by simp only [runE, E.isNop, if_true, h1, h2, Res.of_some, Res.ok_bind]
theorem ev_sli1 {p : Option Int} (hb : b.isNop = false) (h1 : runE G a ρ = .ok (x, ρ1)) (h2 : runE G b ρ1 = .ok (y, ρ2)) (h3 : dPart y.d = some p) (h4 : dCut x.d p none = some r) : runE G (.sli a b .nop) ρ = .ok (r, ρ2) := by
  have hn : E.nop.isNop = true := rfl
  simp only [runE, hn, hb, Bool.false_eq_true, if_true, if_false, h1, h2, h3, h4, Res.of_some, Res.ok_bind]
theorem ev_sli2 {p : Option Int} (hb : b.isNop = false) (h1 : runE G a ρ = .ok (x, ρ1)) (h2 : runE G b ρ1 = .ok (y, ρ2)) (h3 : dPart y.d = some p) (h4 : dCut x.d none p = some r) : runE G (.sli a .nop b) ρ = .ok (r, ρ2) := by
  have hn : E.nop.isNop = true := rfl
  simp only [runE, hn, hb, Bool.false_eq_true, if_true, if_false, h1, h2, h3, h4, Res.of_some, Res.ok_bind]
theorem ev_sli3 {p q : Option Int} (hb : b.isNop = false) (hc : c.isNop = false) (h1 : runE G a ρ = .ok (x, ρ1)) (h2 : runE G b ρ1 = .ok (y, ρ2)) (h3 : dPart y.d = some p) (h5 : runE G c ρ2 = .ok (z, ρ3)) (h6 : dPart z.d = some q) (h4 : dCut x.d p q = some r) : runE G (.sli a b c) ρ = .ok (r, ρ3) := by
  simp only [runE, hb, hc, Bool.false_eq_true, if_false, h1, h2, h3, h4, h5, h6, Res.of_some, Res.ok_bind]
theorem ev_lenv (h1 : (ρ.at i).d? = some d) (h2 : dBi .len [d] = some r) : runE G (.lenv i) ρ = .ok (r, ρ) := by simp only [runE, h1, h2, Res.of_some, Res.ok_bind]
theorem ev_inv {op : Cop} (h1 : runE G a ρ = .ok (x, ρ1)) (h2 : (ρ1.at i).d? = some d) (h3 : dCmp op x.d d = some t) : runE G (.inv op a i) ρ = .ok (.val (.bl t), ρ1) := by simp only [runE, h1, h2, h3, Res.of_some, Res.ok_bind]
theorem ev_cmv {op : Cop} (h0 : (ρ.at i).d? = some d1) (h1 : runE G a ρ = .ok (x, ρ1)) (h2 : (ρ1.at i).d? = some d) (h3 : dCmp op d x.d = some t) : runE G (.cmv op i a) ρ = .ok (.val (.bl t), ρ1) := by simp only [runE, h0, h1, h2, h3, Res.of_some, Res.ok_bind]
theorem ev_bi {op : Bi} {rs : List Rv} (h1 : runEs G es ρ = .ok (rs, ρ1)) (h2 : dBi op (rs.map Rv.d) = some r) : runE G (.bi op es) ρ = .ok (r, ρ1) := by simp only [runE, h1, h2, Res.of_some, Res.ok_bind]
theorem ev_joi (h1 : runE G a ρ = .ok (x, ρ1)) (h2 : runE G b ρ1 = .ok (y, ρ2)) (h3 : joinD x.d y.d = some d) : runE G (.joi a b) ρ = .ok (.val d, ρ2) := by simp only [runE, h1, h2, h3, Res.of_some, Res.ok_bind]
theorem ev_cal {f : Nat} {rs : List Rv} {ps : List Sl} (h1 : runEs G es ρ = .ok (rs, ρ1)) (h2 : G.fn f (rs.map fun r => .val r.d) = .ok (r, ps)) : runE G (.cal f es) ρ = .ok (r, ρ1) := by simp only [runE, h1, h2, Res.ok_bind]
theorem ev_carO {f : Nat} {rs : List Rv} {ps : List Sl} (h0 : (ρ.at i).d? = some d) (h1 : runEs G es ρ = .ok (rs, ρ1)) (h2 : ρ1.at i = .own d1) (h3 : G.fn f (.ref d1 :: rs.map fun r => .val r.d) = .ok (r, .ref d2 :: ps)) (h4 : ρ1.set i (.own d2) = ρ2) : runE G (.car f i es) ρ = .ok (.val r.d, ρ2) := by simp only [runE, h0, h1, h2, h3, h4, Res.of_some, Res.ok_bind]
theorem ev_carR {f : Nat} {rs : List Rv} {ps : List Sl} (h0 : (ρ.at i).d? = some d) (h1 : runEs G es ρ = .ok (rs, ρ1)) (h2 : ρ1.at i = .ref d1) (h3 : G.fn f (.ref d1 :: rs.map fun r => .val r.d) = .ok (r, .ref d2 :: ps)) (h4 : ρ1.set i (.ref d2) = ρ2) : runE G (.car f i es) ρ = .ok (.val r.d, ρ2) := by simp only [runE, h0, h1, h2, h3, h4, Res.of_some, Res.ok_bind]
theorem es_nil : runEs G .nil ρ = .ok ([], ρ) := by simp only [runEs]
theorem es_cons {rs : List Rv} (h1 : runE G e ρ = .ok (x, ρ1)) (h2 : runEs G es ρ1 = .ok (rs, ρ2)) : runEs G (.cons e es) ρ = .ok (x :: rs, ρ2) := by simp only [runEs, h1, h2, Res.ok_bind]
/-! walks -/
theorem ri_frz {ds : List D} (h1 : runE G e ρ = .ok (x, ρ1)) (h2 : dItems x.d = some ds) : runI G (.frz e) ρ = .ok (ds, ρ1, none) := by simp only [runI, h1, h2, Res.of_some, Res.ok_bind]
theorem ri_rng {ds : List D} {rs : List Rv} (h1 : runEs G es ρ = .ok (rs, ρ1)) (h2 : dRange (rs.map Rv.d) = some ds) : runI G (.rng es) ρ = .ok (ds, ρ1, none) := by simp only [runI, h1, h2, Res.of_some, Res.ok_bind]
theorem ri_rev {ds : List D} (h1 : runE G e ρ = .ok (x, ρ1)) (h2 : x.d = .lst ds) : runI G (.rev e) ρ = .ok (ds.reverse, ρ1, none) := by simp only [runI, h1, h2, Res.of_some, Res.ok_bind]
/-! statements -/
theorem rs_asg (h1 : runE G e ρ = .ok (x, ρ1)) (h3 : ρ1.set (i + 1) x.sl = ρ2) : runS G (.asg (i + 1) e) ρ = .ok (.nx ρ2) := by
  simp only [runS, h1, Res.ok_bind, Env.put, Res.of_some, h3]
theorem rs_asg0 (h1 : runE G e ρ = .ok (x, ρ1)) (h2 : (ρ1.at 0).isRef = false) (h3 : ρ1.set 0 x.sl = ρ2) : runS G (.asg 0 e) ρ = .ok (.nx ρ2) := by
  simp only [runS, h1, Res.ok_bind, Env.put]
  cases q : ρ1.at 0 with
  | ref d => rw [q] at h2; cases h2
  | _ => simp only [Res.of_some, Res.ok_bind, h3]
theorem rs_par {is : List Nat} {rs : List Rv} (h1 : runEs G es ρ = .ok (rs, ρ1)) (h2 : setAll is rs ρ1 = some ρ2) : runS G (.par is es) ρ = .ok (.nx ρ2) := by simp only [runS, h1, h2, Res.of_some, Res.ok_bind]
theorem rs_unp {tt : T} (h1 : runE G e ρ = .ok (x, ρ1)) (h2 : setT tt x.d ρ1 = some ρ2) : runS G (.unp tt e) ρ = .ok (.nx ρ2) := by simp only [runS, h1, h2, Res.of_some, Res.ok_bind]
theorem rs_aug {op : Bop} (h0 : ρ.at i = .val d) (h1 : runE G e ρ = .ok (x, ρ1)) (h2 : dAug op d x.d = some d1) (h3 : ρ1.at i = .val d2) (h4 : ρ1.set i (.val d1) = ρ2) : runS G (.aug i op e) ρ = .ok (.nx ρ2) := by simp only [runS, h0, h1, h2, h3, h4, Res.of_some, Res.ok_bind]
theorem rs_setO {d0 : D} (h1 : runE G e ρ = .ok (x, ρ1)) (h0 : (ρ1.at i).d? = some d0) (h2 : runE G k ρ1 = .ok (y, ρ2)) (h3 : ρ2.at i = .own d1) (h4 : dSet d1 y.d x.d = some d2) (h5 : ρ2.set i (.own d2) = ρ3) : runS G (.set i k e) ρ = .ok (.nx ρ3) := by simp only [runS, h0, h1, h2, h3, h4, h5, Res.of_some, Res.ok_bind]
theorem rs_setR {d0 : D} (h1 : runE G e ρ = .ok (x, ρ1)) (h0 : (ρ1.at i).d? = some d0) (h2 : runE G k ρ1 = .ok (y, ρ2)) (h3 : ρ2.at i = .ref d1) (h4 : dSet d1 y.d x.d = some d2) (h5 : ρ2.set i (.ref d2) = ρ3) : runS G (.set i k e) ρ = .ok (.nx ρ3) := by simp only [runS, h0, h1, h2, h3, h4, h5, Res.of_some, Res.ok_bind]
theorem rs_exp (h1 : runE G e ρ = .ok (x, ρ1)) : runS G (.exp e) ρ = .ok (.nx ρ1) := by simp only [runS, h1, Res.ok_bind]
theorem rs_app {l l' : List D} (h0 : (ρ.at i).d? = some (.lst l)) (h1 : runE G e ρ = .ok (x, ρ1)) (h2 : ρ1.at i = .own (.lst l')) (h3 : l'.length + 1 ≤ 16777216) (h4 : ρ1.set i (.own (.lst (l' ++ [x.d]))) = ρ2) : runS G (.app i e) ρ = .ok (.nx ρ2) := by
  simp only [runS, h0, h1, h2, Res.ok_bind, lineOk, decide_eq_true h3, if_true, h4]
theorem rs_ret (h1 : runE G e ρ = .ok (x, ρ1)) : runS G (.ret e) ρ = .ok (.rt x ρ1) := by simp only [runS, h1, Res.ok_bind]
theorem rs_ife {A B : Ss} {R : Res Fl} (h1 : runE G c ρ = .ok (x, ρ1)) (h2 : dTruth x.d = some t) (h3 : sel t (runSs G A ρ1) (runSs G B ρ1) = R) : runS G (.ife c A B) ρ = R := by
  simp only [runS, h1, h2, Res.of_some, Res.ok_bind]
  rw [← h3]
  cases t <;> rfl
theorem seq_nx {ss : Ss} {R : Res Fl} (h : runSs G ss ρ = R) : seqS G ss (.nx ρ) = R := h
theorem seq_rt {ss : Ss} : seqS G ss (.rt x ρ) = .ok (.rt x ρ) := rfl
theorem seq_rtb {ss : Ss} {t t' : Bool} (h : t = t') : seqS G ss (.rt (.val (.bl t)) ρ) = .ok (.rt (.val (.bl t')) ρ) := by rw [h]; rfl
theorem ss_nil : runSs G .nil ρ = .ok (.nx ρ) := by simp only [runSs]
theorem ss_cons {s : S} {ss : Ss} {f1 : Fl} {R : Res Fl} (h1 : runS G s ρ = .ok f1) (h2 : seqS G ss f1 = R) : runSs G (.cons s ss) ρ = R := by
  simp only [runSs, h1, Res.ok_bind]
  rw [← h2]
  cases f1 <;> rfl
def Ss.app : Ss → Ss → Ss
  | .nil, b => b
  | .cons s a, b => .cons s (Ss.app a b)
theorem ss_app {R : Res Fl} : ∀ {A B : Ss} {ρ : Env}, runSs G A ρ = .ok (.nx ρ1) → runSs G B ρ1 = R → runSs G (A.app B) ρ = R
  | .nil, B, ρ, h1, h2 => by
    simp only [runSs] at h1
    cases h1
    exact h2
  | .cons s A, B, ρ, h1, h2 => by
    simp only [runSs] at h1
    obtain ⟨f, g1, h1⟩ := Res.bind_ok h1
    cases f with
    | nx ρ' => exact ss_cons g1 (ss_app (A := A) h1 h2)
    | _ => cases h1
/-- a law's loop by what holds between two turns -/
theorem loopL_inv {b : Ss} {i : Nat} (I : Env → Prop) (h : ∀ (c : Int) (ρ : Env), I ρ → ∃ ρ', runSs G b (ρ.set i (.own (diceD c))) = .ok (.nx ρ') ∧ I ρ') : ∀ (cs : List Int) (ρ : Env), I ρ → ∃ ρ', loopL G i b cs ρ = .ok ρ' ∧ I ρ'
  | [], ρ, hI => ⟨ρ, rfl, hI⟩
  | c :: cs, ρ, hI => by
    obtain ⟨ρ1, h1, h2⟩ := h c ρ hI
    obtain ⟨ρ2, h3, h4⟩ := loopL_inv I h cs ρ1 h2
    exact ⟨ρ2, by simp only [loopL, h1, Res.ok_bind, h3], h4⟩
theorem run_ret {n np : Nat} {B : Ss} {ps ps' : List Sl} (hl : ps.length = np) (h : runSs G B (ps ++ List.replicate (n - np) .no) = .ok (.rt x ρ)) (h2 : np ≤ ρ.length) (h3 : ρ.take np = ps') : runF G n np B ps = .ok (x, ps') := by
  unfold runF
  rw [if_pos hl, h]
  simp only [Res.ok_bind, h2, if_true, h3]
/-- any result: the parameters' slots behind are of no matter -/
theorem run_ret0 {n np : Nat} {B : Ss} {ps : List Sl} (hl : ps.length = np) (h : ∃ ρ : Env, runSs G B (ps ++ List.replicate (n - np) .no) = .ok (.rt x ρ) ∧ np ≤ ρ.length) : ∃ ps', runF G n np B ps = .ok (x, ps') := by
  obtain ⟨ρ, h, h2⟩ := h
  exact ⟨_, run_ret hl h h2 rfl⟩
/-! loops -/
/-- a state that a turn changes -/
theorem for_fold {α : Type} {body : D → Env → Res Fl} (enc : α → Env) (step : α → D → α) (Inv : α → Prop) : ∀ (ds : List D) (s : α), Inv s → (∀ x ∈ ds, ∀ s, Inv s → body x (enc s) = .ok (.nx (enc (step s x))) ∧ Inv (step s x)) → loopF body ds (enc s) = .ok (.nx (enc (ds.foldl step s))) ∧ Inv (ds.foldl step s)
  | [], s, hi, _ => ⟨by simp only [loopF, List.foldl_nil], hi⟩
  | x :: ds, s, hi, h => by
    obtain ⟨h1, h2⟩ := h x List.mem_cons_self s hi
    have q := for_fold enc step Inv ds (step s x) h2 fun y hy => h y (List.mem_cons_of_mem _ hy)
    simp only [loopF, h1, Res.ok_bind, List.foldl_cons]
    exact q
theorem rs_for {tt : T} {it : I} {B : Ss} {ds : List D} {R : Res Fl} (h1 : runI G it ρ = .ok (ds, ρ1, none)) (h2 : loopF (fun x ρ => (Res.of (setT tt x ρ)).bind fun ρ1 => runSs G B ρ1) ds ρ1 = R) : runS G (.fors tt it B) ρ = R := by simp only [runS, h1, Res.ok_bind, h2]
theorem body_set {tt : T} {B : Ss} {R : Res Fl} (h1 : setT tt d ρ = some ρ1) (h2 : runSs G B ρ1 = R) : ((Res.of (setT tt d ρ)).bind fun ρ1 => runSs G B ρ1) = R := by simp only [h1, Res.of_some, Res.ok_bind, h2]
theorem rs_whl {n : Nat} {B : Ss} {R : Res Fl} (h : loopW (fun ρ => (runE G c ρ).bind fun p => truR p.1 p.2) (fun ρ => runSs G B ρ) n ρ = R) : runS G (.whl n c B) ρ = R := by simp only [runS, h]
theorem truR_ok (h : dTruth x.d = some t) : truR x ρ = .ok (t, ρ) := by simp only [truR, h, Res.of_some, Res.ok_bind]
theorem whl_step {n : Nat} {C : Env → Res (Bool × Env)} {B : Env → Res Fl} {f1 : Fl} {R : Res Fl} (h1 : C ρ = .ok (true, ρ1)) (h2 : B ρ1 = .ok f1) (h3 : seqW C B n f1 = R) : loopW C B (n + 1) ρ = R := by
  simp only [loopW, h1, Res.ok_bind, if_true, h2]
  rw [← h3]
  cases f1 <;> rfl
theorem whl_end {n : Nat} {C : Env → Res (Bool × Env)} {B : Env → Res Fl} (h1 : C ρ = .ok (false, ρ1)) : loopW C B (n + 1) ρ = .ok (.nx ρ1) := by
  simp only [loopW, h1, Res.ok_bind, Bool.false_eq_true, if_false]
/-- list comprehensions whose turns change nothing -/
theorem loopC_pure {turn : D → Env → Res (List D × Env)} {f : D → List D} (ρ : Env) : ∀ (ds acc : List D), (∀ x ∈ ds, turn x ρ = .ok (f x, ρ)) → acc.length + (ds.flatMap f).length ≤ 16777216 → loopC turn ds acc ρ = .ok (acc ++ ds.flatMap f, ρ)
  | [], acc, _, _ => by simp only [loopC, List.flatMap_nil, List.append_nil]
  | x :: ds, acc, h, hl => by
    rw [List.flatMap_cons, List.length_append] at hl
    have q := loopC_pure ρ ds (acc ++ f x) (fun y hy => h y (List.mem_cons_of_mem _ hy)) (by rw [List.length_append]; omega)
    have hz : lineOk (acc.length + (f x).length) = true := by unfold lineOk; exact decide_eq_true (by omega)
    simp only [loopC, h x List.mem_cons_self, Res.ok_bind, hz, if_true, q, List.flatMap_cons, List.append_assoc]
theorem turnC_ok {set : D → Env → Option Env} {own : List Nat} {C : Env → Res (Bool × Env)} {F : Env → Res (List D × Env)} {ys : List D} (h1 : set d ρ = some ρ1) (h2 : C ρ1 = .ok (t, ρ2)) (h3 : sel t ((F ρ2).bind fun q => .ok (q.1, wipe q.2 own)) (.ok ([], wipe ρ2 own)) = .ok (ys, ρ3)) : turnC set own C F d ρ = .ok (ys, ρ3) := by
  unfold turnC
  simp only [h1, h2, Res.of_some, Res.ok_bind]
  cases t
  · exact h3
  · exact h3
theorem ev_lc {elt : E} {tt : T} {it : I} {ds : List D} {zs : List D} (h1 : runI G it ρ = .ok (ds, ρ1, none)) (h2 : wipable ρ1 tt.slots = true) (h3 : loopC (turnC (setT tt) tt.slots (fun ρ => if c.isNop then .ok (true, ρ) else (runE G c ρ).bind fun p => truR p.1 p.2) (fun ρ => (runE G elt ρ).bind fun q => .ok ([q.1.d], q.2))) ds [] (wipe ρ1 tt.slots) = .ok (zs, ρ2)) : runE G (.lc elt tt it c) ρ = .ok (.own (.lst zs), ρ2) := by
  simp only [runE, h1, Res.ok_bind, h2, if_true, h3, back]
/-- over one name that is no other's: elements f, test p -/
theorem ev_lc1 {elt : E} {v : Nat} {it : I} {ds : List D} (p : D → Bool) (f : D → D) (h1 : runI G it ρ = .ok (ds, ρ1, none)) (h2 : ρ1.at v = .no) (hv : v < ρ1.length) (hl : ds.length ≤ 16777216)
    (hp : ∀ x ∈ ds, (if c.isNop then (.ok (true, ρ1.set v (.val x)) : Res (Bool × Env)) else (runE G c (ρ1.set v (.val x))).bind fun p => truR p.1 p.2) = .ok (p x, ρ1.set v (.val x)))
    (hf : ∀ x ∈ ds, p x = true → ∃ r : Rv, r.d = f x ∧ runE G elt (ρ1.set v (.val x)) = .ok (r, ρ1.set v (.val x))) : runE G (.lc elt (.nm v) it c) ρ = .ok (.own (.lst ((ds.filter p).map f)), ρ1) := by
  have hw : wipe ρ1 [v] = ρ1 := by
    show ρ1.set v .no = ρ1
    apply List.ext_getElem?
    intro j
    by_cases e : v = j
    · subst e
      rw [List.getElem?_set_self hv, at_get hv, h2]
    · rw [List.getElem?_set_ne e]
  have hww : ∀ x, wipe (ρ1.set v (.val x)) [v] = ρ1 := fun x => by
    show (ρ1.set v (.val x)).set v .no = ρ1
    rw [List.set_set]
    exact hw
  refine ev_lc h1 ?_ ?_
  · simp only [T.slots, wipable, List.all_cons, List.all_nil, Bool.and_true, h2, decide_eq_true hv]
  · simp only [T.slots]
    rw [hw]
    have e : (ds.filter p).map f = ds.flatMap fun x => if p x then [f x] else [] := by
      clear hp hf hl h1
      induction ds with
      | nil => rfl
      | cons x ds ih =>
        rw [List.flatMap_cons, ← ih]
        cases hp : p x <;> simp [List.filter_cons, hp]
    rw [e, ← List.nil_append (ds.flatMap _)]
    refine loopC_pure ρ1 ds [] (fun x hx => ?_) ?_
    · have hs : setT (.nm v) x ρ1 = some (ρ1.set v (.val x)) := by cases v <;> simp only [setT, Env.put, h2]
      refine turnC_ok hs (hp x hx) ?_
      cases hpx : p x with
      | false => simp only [hww, Bool.false_eq_true, if_false, sel]
      | true =>
        obtain ⟨r, hr, hrun⟩ := hf x hx hpx
        simp only [hrun, Res.ok_bind, hww, hr, if_true, sel]
    · rw [← e, List.length_map]
      have := List.length_filter_le p ds
      simp; omega
end
end Gw

set_option Elab.async false
set_option linter.all false
set_option maxRecDepth 100000
set_option maxHeartbeats 1000000
/-! The dice: what the small syntax of the laws' helpers gives. Plain Lean. -/
namespace Gw
theorem dBin_add_str {a b : List Nat} (h : a.length + b.length ≤ 16777216) : dBin .add (.str a) (.str b) = some (.val (.str (a ++ b))) := by simp only [dBin, lineOk, decide_eq_true h, if_true]
theorem dBin_mod {a b : Int} (h : 0 < b) : dBin .mod (.int a) (.int b) = some (.val (.int (a % b))) := by simp only [dBin, decide_eq_true h, if_true]
theorem dBin_fdiv {a b : Int} (h : 0 < b) (h2 : b < 1073741824) : dBin .fdiv (.int a) (.int b) = some (.val (.int (a / b))) := by simp only [dBin, decide_eq_true h, decide_eq_true h2, Bool.and_self, if_true]
theorem dBin_mulR {a b : Int} (h : small64 b = true) : dBin .mul (.int a) (.int b) = some (.val (.int (a * b))) := by simp only [dBin, h, Bool.or_true, if_true]
theorem dBin_mulL {a b : Int} (h : small64 a = true) : dBin .mul (.int a) (.int b) = some (.val (.int (a * b))) := by simp only [dBin, h, Bool.true_or, if_true]
theorem dBi_len_str {a : List Nat} (h : a.length ≤ 16777216) : dBi .len [.str a] = some (.val (.int a.length)) := by simp only [dBi, lineOk, decide_eq_true h, if_true]
theorem dCut_str {a : List Nat} {lo hi : Option Int} (h : a.length ≤ 16777216) : dCut (.str a) lo hi = some (.val (.str (cut a lo hi))) := by simp only [dCut, lineOk, decide_eq_true h, if_true]
theorem dIdx_str {a : List Nat} {i : Int} {c : Nat} (h : a.length ≤ 16777216) (h2 : atI a i = some c) : dIdx (.str a) (.int i) = some (.str [c]) := by simp only [dIdx, lineOk, decide_eq_true h, if_true, h2, Option.map_some]
local macro_rules | `(tactic| walk_at "set") => `(tactic| first | (simp only [List.set_cons_succ, List.set_cons_zero]; done) | (simp only [List.set_cons_succ, List.set_cons_zero]; rfl) | rfl)
local macro_rules | `(tactic| walk_at "len") => `(tactic| first | omega | (simp only [List.length_cons, List.length_nil, List.length_append, List.length_map]; omega) | (simp; omega))
local macro_rules | `(tactic| walk_at "cond") => `(tactic| first | rfl | assumption | (simp only [Rv.d, D.eqb, decide_eq_true_eq, decide_eq_false_iff_not, beq_iff_eq, bne_iff_ne, Bool.not_eq_true', Bool.not_eq_false', Bool.and_eq_true, Bool.or_eq_true, beq_eq_false_iff_ne]; first | assumption | omega) | (simp [Rv.d, D.eqb, *]; done))
local macro_rules | `(tactic| walk_at "leaf") => `(tactic| first | rfl | (refine dBin_add_str ?_; walk_at "len") | (refine dBin_mod ?_; omega) | (refine dBin_fdiv ?_ ?_ <;> omega) | (refine dBin_mulR ?_; decide) | (refine dBin_mulL ?_; decide) | (refine dBi_len_str ?_; walk_at "len") | (refine dCut_str ?_; walk_at "len") | (show _ ≤ 16777216; walk_at "len"))
local macro_rules | `(tactic| walk_at "call") => `(tactic| first | with_reducible assumption | (simp only [List.map_cons, List.map_nil, Rv.d]; with_reducible assumption))
local macro_rules | `(tactic| walk_at "ev") => `(tactic| repeat' (first
  | with_reducible exact ev_cst | with_reducible exact es_nil | with_reducible exact ss_nil | ((with_reducible apply ev_var); rfl) | ((with_reducible apply ev_own); rfl; walk_at "set")
  | with_reducible apply es_cons | with_reducible apply ss_cons | with_reducible exact seq_rt | ((with_reducible refine seq_rtb ?h); (case h => walk_at "cond")) | with_reducible apply seq_nx
  | ((with_reducible refine m_t ?h ?_); (case h => walk_at "cond")) | ((with_reducible refine m_f ?h ?_); (case h => walk_at "cond"))
  | with_reducible apply ev_bin | with_reducible apply ev_cmp | with_reducible apply ev_cmv | with_reducible apply ev_neg | with_reducible apply ev_chn | with_reducible apply ev_chn2 | with_reducible apply ev_and | with_reducible apply ev_or | with_reducible apply ev_not | with_reducible apply ev_ite | with_reducible apply ev_tup | with_reducible apply ev_lst | with_reducible apply ev_idv | with_reducible apply ev_idx | with_reducible apply ev_sli0 | with_reducible apply ev_sli1 | with_reducible apply ev_sli2 | with_reducible apply ev_sli3 | with_reducible apply ev_lenv | with_reducible apply ev_inv | with_reducible apply ev_bi | with_reducible apply ev_joi | with_reducible apply rs_asg | with_reducible apply rs_asg0 | with_reducible apply rs_ife | with_reducible apply rs_ret | with_reducible apply rs_exp | with_reducible apply rs_aug
  | with_reducible apply rs_setR | with_reducible apply rs_setO | with_reducible apply ev_cal | with_reducible apply rs_unp | with_reducible apply rs_par | with_reducible apply rs_app
  | walk_at "call"
  | walk_at "leaf" | walk_at "set"))
def diceB : Ss := (.cons (.ife (.chn .lt .lt (.bin .sub (.cst (.int 0)) (.cst (.int 10))) (.var 0) (.cst (.int 10))) (.cons (.ret (.lst (.cons (.bi .abs (.cons (.var 0) .nil)) (.cons (.cst (.int 0)) (.cons (.cst (.int 2)) .nil))))) .nil) .nil) (.cons (.ret (.lst (.cons (.var 0) (.cons (.bin .add (.cst (.int 1)) (.bin .mod (.bi .int (.cons (.var 0) .nil)) (.cst (.int 1009)))) (.cons (.bi .int (.cons (.cmv .ge 0 (.bin .pow (.cst (.int 10)) (.cst (.int 18)))) .nil)) .nil))))) .nil))
def rollB : Ss := (.cons (.ife (.or (.cmp .eq (.idv 0 (.cst (.int 2))) (.cst (.int 2))) (.and (.cmp .eq (.idv 0 (.cst (.int 2))) (.cst (.int 1))) (.cmp .gt (.idv 0 (.cst (.int 0))) (.cst (.int 0))))) (.cons (.asg 2 (.bin .mod (.bi .int (.cons (.idv 0 (.cst (.int 0))) .nil)) (.var 1))) (.cons (.set 0 (.cst (.int 0)) (.bin .fdiv (.idv 0 (.cst (.int 0))) (.var 1))) (.cons (.ret (.var 2)) .nil))) .nil) (.cons (.set 0 (.cst (.int 2)) (.cst (.int 0))) (.cons (.set 0 (.cst (.int 0)) (.bin .mod (.bi .int (.cons (.bin .add (.bin .add (.bin .mul (.idv 0 (.cst (.int 0))) (.cst (.int 48271))) (.bin .mul (.idv 0 (.cst (.int 1))) (.cst (.int 69621)))) (.cst (.int 11))) .nil)) (.cst (.int 2147483647)))) (.cons (.set 0 (.cst (.int 1)) (.bin .add (.idv 0 (.cst (.int 1))) (.cst (.int 1)))) (.cons (.ret (.bin .mod (.bi .int (.cons (.bin .add (.bin .fdiv (.idv 0 (.cst (.int 0))) (.cst (.int 7))) (.idv 0 (.cst (.int 0)))) .nil)) (.var 1))) .nil)))))
theorem run_dice (G : Glo) (c : Int) : runF G 1 1 diceB [.val (.int c)] = .ok (.own (diceD c), [.val (.int c)]) := by
  refine run_ret (ρ := [.val (.int c)]) rfl ?_ (Nat.le_refl _) rfl
  show runSs G diceB [.val (.int c)] = _
  unfold diceB
  by_cases h : -10 < c ∧ c < 10
  · obtain ⟨h1, h2⟩ := h
    have e : diceD c = .lst [.int (if c < 0 then -c else c), .int 0, .int 2] := by simp [diceD, diceL, h1, h2]
    rw [e]
    walk_at "ev"
  · have e : diceD c = .lst [.int c, .int (1 + c % 1009), .int (if decide (10 ^ Int.toNat 18 ≤ c) = true then 1 else 0)] := by simp [diceD, diceL, h]
    rw [e]
    by_cases h1 : -10 < c
    · have h2 : ¬ c < 10 := fun z => h ⟨h1, z⟩
      walk_at "ev"
    · walk_at "ev"
/-- three ints -/
def IsDice (d : D) : Prop := ∃ a b k : Int, d = .lst [.int a, .int b, .int k]
theorem dice_is (c : Int) : IsDice (diceD c) := by
  unfold diceD diceL
  split
  · exact ⟨_, _, _, rfl⟩
  · exact ⟨_, _, _, rfl⟩
theorem run_roll (G : Glo) {d : D} {m : Int} (hd : IsDice d) (h0 : 0 < m) (h1 : m < 1073741824) : ∃ (r : Int) (d' : D), IsDice d' ∧ 0 ≤ r ∧ r < m ∧ runF G 3 2 rollB [.ref d, .val (.int m)] = .ok (.val (.int r), [.ref d', .val (.int m)]) := by
  obtain ⟨a, b, k, rfl⟩ := hd
  by_cases hc : k = 2 ∨ k = 1 ∧ 0 < a
  · refine ⟨a % m, .lst [.int (a / m), .int b, .int k], ⟨_, _, _, rfl⟩, Int.emod_nonneg _ (by omega), Int.emod_lt_of_pos _ h0, ?_⟩
    refine run_ret (ρ := [.ref (.lst [.int (a / m), .int b, .int k]), .val (.int m), .val (.int (a % m))]) rfl ?_ (by simp) rfl
    show runSs G rollB [.ref (.lst [.int a, .int b, .int k]), .val (.int m), .no] = _
    unfold rollB
    by_cases hk : k = 2
    · walk_at "ev"
    · have hk1 : k = 1 := by omega
      have ha : 0 < a := by omega
      walk_at "ev"
  · refine ⟨((a * 48271 + b * 69621 + 11) % 2147483647 / 7 + (a * 48271 + b * 69621 + 11) % 2147483647) % m, .lst [.int ((a * 48271 + b * 69621 + 11) % 2147483647), .int (b + 1), .int 0], ⟨_, _, _, rfl⟩, Int.emod_nonneg _ (by omega), Int.emod_lt_of_pos _ h0, ?_⟩
    refine run_ret (ρ := [.ref (.lst [.int ((a * 48271 + b * 69621 + 11) % 2147483647), .int (b + 1), .int 0]), .val (.int m), .no]) rfl ?_ (by simp) rfl
    show runSs G rollB [.ref (.lst [.int a, .int b, .int k]), .val (.int m), .no] = _
    unfold rollB
    have hk : ¬ k = 2 := fun z => hc (.inl z)
    by_cases hk1 : k = 1
    · have ha : ¬ 0 < a := fun z => hc (.inr ⟨hk1, z⟩)
      walk_at "ev"
    · walk_at "ev"
def wordB (R : Nat) : Ss := (.cons (.ret (.joi (.cst (.str [])) (.lc (.idv 2 (.car R 0 (.cons (.lenv 2) .nil))) (.nm 3) (.rng (.cons (.car R 0 (.cons (.bin .add (.var 1) (.cst (.int 1))) .nil)) .nil)) .nop))) .nil)
theorem atI_nat {α : Type} {xs : List α} {r : Int} (h0 : 0 ≤ r) (h1 : r < xs.length) : ∃ c, atI xs r = some c ∧ c ∈ xs := by
  have hj : r.toNat < xs.length := by omega
  refine ⟨xs[r.toNat], ?_, List.getElem_mem hj⟩
  unfold atI ixN
  rw [if_pos h0, if_pos h1, Option.bind_some, List.getElem?_eq_getElem hj]
theorem strs_signs : ∀ cs : List Nat, dStrs (cs.map fun c => D.str [c]) = some (cs.map fun c => [c])
  | [] => rfl
  | c :: cs => by simp only [List.map_cons, dStrs, strs_signs cs, Option.map_some]
theorem flat_signs : ∀ cs : List Nat, (cs.map fun c => [c]).flatten = cs
  | [] => rfl
  | c :: cs => by simp only [List.map_cons, List.flatten_cons, flat_signs cs, List.singleton_append]
theorem sum_signs : ∀ cs : List Nat, sumLen (cs.map fun c => [c]) = cs.length
  | [] => rfl
  | c :: cs => by simp only [List.map_cons, sumLen, sum_signs cs, List.length_cons, List.length_nil]; omega
/-- the dice's letters, one a turn -/
theorem word_loop {G G' : Glo} {R : Nat} (hR : G.fn R = runF G' 3 2 rollB) {m : Int} {ls : List Nat} (h1 : 0 < ls.length) (h2 : ls.length < 1000) : ∀ (ds acc : List D) (d : D), IsDice d → acc.length + ds.length ≤ 16777216 → ∃ (cs : List Nat) (d' : D), IsDice d' ∧ cs.length = ds.length ∧ (∀ c ∈ cs, c ∈ ls) ∧
    loopC (turnC (setT (.nm 3)) [3] (fun ρ => if E.nop.isNop then .ok (true, ρ) else (runE G .nop ρ).bind fun p => truR p.1 p.2) (fun ρ => (runE G (.idv 2 (.car R 0 (.cons (.lenv 2) .nil))) ρ).bind fun q => .ok ([q.1.d], q.2))) ds acc [.ref d, .val (.int m), .val (.str ls), .no] = .ok (acc ++ cs.map fun c => D.str [c], [.ref d', .val (.int m), .val (.str ls), .no])
  | [], acc, d, hd, _ => ⟨[], d, hd, rfl, (fun _ h => by cases h), by simp only [loopC, List.map_nil, List.append_nil]⟩
  | x :: ds, acc, d, hd, hl => by
    obtain ⟨r, d1, hd1, r0, r1, hr⟩ := run_roll G' hd (m := ls.length) (by omega) (by omega)
    obtain ⟨c, hc, hm⟩ := atI_nat (xs := ls) r0 r1
    obtain ⟨cs, d2, hd2, hlen, hall, hrun⟩ := word_loop hR h1 h2 (m := m) ds (acc ++ [.str [c]]) d1 hd1 (by simp at hl ⊢; omega)
    refine ⟨c :: cs, d2, hd2, by simp [hlen], fun z hz => ?_, ?_⟩
    · rcases List.mem_cons.mp hz with rfl | hz
      · exact hm
      · exact hall z hz
    · have e1 : runE G (.idv 2 (.car R 0 (.cons (.lenv 2) .nil))) [.ref d, .val (.int m), .val (.str ls), .val x] = .ok (.val (.str [c]), [.ref d1, .val (.int m), .val (.str ls), .val x]) := by
        refine ev_idv (d1 := .str ls) (d2 := .str ls) (y := .val (.int r)) rfl ?_ rfl (dIdx_str (by omega) hc)
        refine ev_carR (d := d) (d1 := d) (d2 := d1) (r := .val (.int r)) (rs := [.val (.int ls.length)]) (ps := [.val (.int ls.length)]) (ρ1 := [.ref d, .val (.int m), .val (.str ls), .val x]) rfl ?_ rfl ?_ rfl
        · exact es_cons (ev_lenv rfl (dBi_len_str (by omega))) es_nil
        · rw [hR]; exact hr
      have e2 : turnC (setT (.nm 3)) [3] (fun ρ => if E.nop.isNop then .ok (true, ρ) else (runE G .nop ρ).bind fun p => truR p.1 p.2) (fun ρ => (runE G (.idv 2 (.car R 0 (.cons (.lenv 2) .nil))) ρ).bind fun q => .ok ([q.1.d], q.2)) x [.ref d, .val (.int m), .val (.str ls), .no] = .ok ([.str [c]], [.ref d1, .val (.int m), .val (.str ls), .no]) := by
        refine turnC_ok (t := true) (ρ1 := [.ref d, .val (.int m), .val (.str ls), .val x]) (ρ2 := [.ref d, .val (.int m), .val (.str ls), .val x]) rfl rfl ?_
        show (((runE G (.idv 2 (.car R 0 (.cons (.lenv 2) .nil))) [.ref d, .val (.int m), .val (.str ls), .val x]).bind fun q => .ok ([q.1.d], q.2)).bind fun q => .ok (q.1, wipe q.2 [3])) = _
        rw [e1]; rfl
      have hz : lineOk (acc.length + 1) = true := by unfold lineOk; exact decide_eq_true (by simp at hl; omega)
      simp only [loopC, e2, Res.ok_bind, List.length_cons, List.length_nil, Nat.zero_add, hz, if_true, hrun, List.map_cons, List.append_assoc, List.singleton_append]
theorem run_word {G G' : Glo} {R : Nat} (hR : G.fn R = runF G' 3 2 rollB) {d : D} (hd : IsDice d) {m : Int} {ls : List Nat} (h0 : 0 ≤ m) (hm : m < 1000) (h1 : 0 < ls.length) (h2 : ls.length < 1000) : ∃ (w : List Nat) (d' : D), IsDice d' ∧ (w.length : Int) ≤ m ∧ (∀ c ∈ w, c ∈ ls) ∧
    runF G 4 3 (wordB R) [.ref d, .val (.int m), .val (.str ls)] = .ok (.val (.str w), [.ref d', .val (.int m), .val (.str ls)]) := by
  obtain ⟨r, d1, hd1, r0, r1, hr⟩ := run_roll G' hd (m := m + 1) (by omega) (by omega)
  obtain ⟨cs, d2, hd2, hlen, hall, hrun⟩ := word_loop hR h1 h2 (m := m) (ranged 0 1 r.toNat) [] d1 hd1 (by simp [ranged]; omega)
  have hl : (ranged 0 1 r.toNat).length = r.toNat := by simp [ranged]
  refine ⟨cs, d2, hd2, by rw [hlen, hl]; omega, hall, ?_⟩
  refine run_ret (ρ := [.ref d2, .val (.int m), .val (.str ls), .no]) rfl ?_ (by simp) rfl
  show runSs G (wordB R) [.ref d, .val (.int m), .val (.str ls), .no] = _
  refine ss_cons (rs_ret (ev_joi ev_cst (ev_lc (ds := ranged 0 1 r.toNat) (ρ1 := [.ref d1, .val (.int m), .val (.str ls), .no]) (ri_rng (rs := [.val (.int r)]) (es_cons ?_ es_nil) ?_) rfl hrun) ?_)) seq_rt
  · refine ev_carR (d := d) (d1 := d) (d2 := d1) (r := .val (.int r)) (rs := [.val (.int (m + 1))]) (ps := [.val (.int (m + 1))]) (ρ1 := [.ref d, .val (.int m), .val (.str ls), .no]) rfl ?_ rfl ?_ rfl
    · exact es_cons (ev_bin (ev_var rfl) ev_cst rfl) es_nil
    · rw [hR]; exact hr
  · show dRange [.int r] = _
    have : inR r = true := by
      unfold inR
      rw [Bool.and_eq_true]
      exact ⟨decide_eq_true (by omega), decide_eq_true (by omega)⟩
    simp only [dRange, this, if_true]
  · show joinD (.str []) (.lst ([] ++ cs.map fun c => D.str [c])) = some (.str cs)
    rw [List.nil_append]
    have hz : lineOk cs.length = true := by unfold lineOk; exact decide_eq_true (by omega)
    simp only [joinD, strs_signs, sum_signs, hz, if_true, flat_signs]
end Gw

set_option Elab.async false
set_option linter.all false
set_option maxRecDepth 100000
set_option maxHeartbeats 1000000
/-! Words less than all their endings; the falling cut of a word into such. Plain Lean. -/
namespace Lyn
open Gw
/-! ### the order -/
theorem irr : ∀ a : List Nat, ltL a a = false
  | [] => rfl
  | x :: a => by simp only [ltL, Nat.lt_irrefl, if_false, if_true, irr a]
theorem tri : ∀ a b : List Nat, ltL a b = true ∨ a = b ∨ ltL b a = true
  | [], [] => .inr (.inl rfl)
  | [], _ :: _ => .inl rfl
  | _ :: _, [] => .inr (.inr rfl)
  | x :: a, y :: b => by
    simp only [ltL]
    rcases Nat.lt_trichotomy x y with h | h | h
    · left; rw [if_pos h]
    · subst h
      rcases tri a b with k | k | k
      · left; simp [k]
      · right; left; rw [k]
      · right; right; simp [k]
    · right; right; rw [if_pos h]
theorem trans : ∀ {a b c : List Nat}, ltL a b = true → ltL b c = true → ltL a c = true
  | _, [], _, h, _ => by cases ‹List Nat› <;> simp [ltL] at h
  | _, _ :: _, [], _, h => by simp [ltL] at h
  | [], _ :: _, _ :: _, _, _ => rfl
  | x :: a, y :: b, z :: c, h1, h2 => by
    simp only [ltL] at h1 h2 ⊢
    by_cases e1 : x < y
    · by_cases e2 : y < z
      · rw [if_pos (by omega)]
      · rw [if_neg e2] at h2
        by_cases e3 : y = z
        · rw [if_pos (by omega)]
        · rw [if_neg e3] at h2; cases h2
    · rw [if_neg e1] at h1
      by_cases e4 : x = y
      · rw [if_pos e4] at h1
        by_cases e2 : y < z
        · rw [if_pos (by omega)]
        · rw [if_neg e2] at h2
          by_cases e3 : y = z
          · rw [if_pos e3] at h2
            rw [if_neg (by omega), if_pos (by omega)]
            exact trans h1 h2
          · rw [if_neg e3] at h2; cases h2
      · rw [if_neg e4] at h1; cases h1
theorem asym {a b : List Nat} (h : ltL a b = true) : ltL b a = false := by
  cases e : ltL b a with
  | false => rfl
  | true => have := trans h e; rw [irr] at this; cases this
/-- a ≤ b -/
def Le (a b : List Nat) : Prop := ltL b a = false
theorem Le.trans {a b c : List Nat} (h1 : Le a b) (h2 : Le b c) : Le a c := by
  unfold Le at *
  cases e : ltL c a with
  | false => rfl
  | true =>
    rcases tri b c with k | k | k
    · have := Lyn.trans k e; rw [this] at h1; cases h1
    · subst k; rw [e] at h1; cases h1
    · rw [k] at h2; cases h2
theorem lt_le {a b c : List Nat} (h1 : ltL a b = true) (h2 : Le b c) : ltL a c = true := by
  rcases tri b c with k | k | k
  · exact trans h1 k
  · rw [← k]; exact h1
  · rw [show ltL c b = false from h2] at k; cases k
theorem le_lt {a b c : List Nat} (h1 : Le a b) (h2 : ltL b c = true) : ltL a c = true := by
  rcases tri a b with k | k | k
  · exact trans k h2
  · rw [k]; exact h2
  · rw [show ltL b a = false from h1] at k; cases k
theorem app (p a b : List Nat) : ltL (p ++ a) (p ++ b) = ltL a b := by
  induction p with
  | nil => rfl
  | cons x p ih => simp only [List.cons_append, ltL, Nat.lt_irrefl, if_false, if_true, ih]
theorem pre (a b : List Nat) : Le a (a ++ b) := by
  have := app a b []
  rw [List.append_nil] at this
  unfold Le
  rw [this]
  cases b <;> rfl
theorem pre_lt (a : List Nat) {b : List Nat} (h : b ≠ []) : ltL a (a ++ b) = true := by
  have := app a [] b
  rw [List.append_nil] at this
  rw [this]
  cases b with
  | nil => exact (h rfl).elim
  | cons _ _ => rfl
/-- less by a sign -/
def mlt : List Nat → List Nat → Bool
  | a :: as, b :: bs => if a < b then true else if a = b then mlt as bs else false
  | _, _ => false
theorem mlt_app : ∀ {a b : List Nat} (x y : List Nat), mlt a b = true → mlt (a ++ x) (b ++ y) = true
  | [], _, _, _, h => by simp [mlt] at h
  | _ :: _, [], _, _, h => by simp [mlt] at h
  | a :: as, b :: bs, x, y, h => by
    simp only [mlt, List.cons_append] at h ⊢
    split
    · rfl
    · rename_i h1
      rw [if_neg h1] at h
      split
      · rename_i h2
        rw [if_pos h2] at h
        exact mlt_app x y h
      · rename_i h2
        rw [if_neg h2] at h; cases h
theorem mlt_lt : ∀ {a b : List Nat}, mlt a b = true → ltL a b = true
  | [], _, h => by simp [mlt] at h
  | _ :: _, [], h => by simp [mlt] at h
  | a :: as, b :: bs, h => by
    simp only [mlt] at h
    simp only [ltL]
    split
    · rfl
    · rename_i h1
      rw [if_neg h1] at h
      split
      · rename_i h2
        rw [if_pos h2] at h
        exact mlt_lt h
      · rename_i h2
        rw [if_neg h2] at h; cases h
theorem lt_mlt : ∀ {a b : List Nat}, ltL a b = true → mlt a b = true ∨ ∃ c, c ≠ [] ∧ b = a ++ c
  | _, [], h => by cases ‹List Nat› <;> simp [ltL] at h
  | [], b :: bs, _ => .inr ⟨b :: bs, by simp, rfl⟩
  | a :: as, b :: bs, h => by
    simp only [ltL] at h
    simp only [mlt]
    by_cases h1 : a < b
    · left; rw [if_pos h1]
    · rw [if_neg h1] at h
      by_cases h2 : a = b
      · rw [if_pos h2] at h
        rw [if_neg h1, if_pos h2]
        rcases lt_mlt h with k | ⟨c, k1, k2⟩
        · exact .inl k
        · exact .inr ⟨c, k1, by rw [h2, k2]; rfl⟩
      · rw [if_neg h2] at h; cases h
theorem lt_mlt' {a b : List Nat} (h : ltL a b = true) (hl : b.length ≤ a.length) : mlt a b = true := by
  rcases lt_mlt h with k | ⟨c, k1, rfl⟩
  · exact k
  · rw [List.length_append] at hl
    exact (k1 (List.eq_nil_of_length_eq_zero (by omega))).elim
/-! ### less than all endings, less than all turns -/
def Lyn (w : List Nat) : Prop := w ≠ [] ∧ ∀ k, 0 < k → k < w.length → ltL w (w.drop k) = true
theorem rot_of {w : List Nat} {k : Nat} (h0 : 0 < k) (h1 : k < w.length) (h : ltL w (w.drop k) = true) : ltL w (w.drop k ++ w.take k) = true := by
  have q := lt_mlt' h (by rw [List.length_drop]; omega)
  have q2 := mlt_app [] (w.take k) q
  rw [List.append_nil] at q2
  exact mlt_lt q2
theorem of_rot {w : List Nat} (h : ∀ k, 0 < k → k < w.length → ltL w (w.drop k ++ w.take k) = true) (k : Nat) (h0 : 0 < k) (h1 : k < w.length) : ltL w (w.drop k) = true := by
  have hk := h k h0 h1
  have hm := lt_mlt' hk (by simp; omega)
  rcases tri w (w.drop k) with q | q | q
  · exact q
  · have : w.length = (w.drop k).length := by rw [← q]
    rw [List.length_drop] at this; omega
  · exfalso
    rcases lt_mlt q with z | ⟨c, z1, z2⟩
    · have z3 := mlt_app (w.take k) [] z
      rw [List.append_nil] at z3
      have := asym (mlt_lt z3)
      rw [hk] at this; cases this
    · -- w = v ++ c
      have lv : (w.drop k).length = w.length - k := List.length_drop
      have lc : c.length = k := by
        have : w.length = (w.drop k).length + c.length := by rw [← List.length_append, ← z2]
        omega
      have hk2 : ltL c (w.take k) = true := by
        have : ltL (w.drop k ++ c) (w.drop k ++ w.take k) = true := by rw [← z2]; exact hk
        rwa [app] at this
      have hm2 := lt_mlt' hk2 (by rw [List.length_take]; omega)
      have hd : w.drop (w.length - k) = c := by
        have e : (w.drop k ++ c).drop (w.drop k).length = c := List.drop_left
        rw [← z2, lv] at e
        exact e
      have ht : w.take (w.length - k) = w.drop k := by
        have e : (w.drop k ++ c).take (w.drop k).length = w.drop k := List.take_left
        rw [← z2, lv] at e
        exact e
      have hr := h (w.length - k) (by omega) (by omega)
      rw [hd, ht] at hr
      have z3 := mlt_app (w.drop k) (w.drop k) hm2
      rw [List.take_append_drop] at z3
      have := asym (mlt_lt z3)
      rw [hr] at this; cases this
/-! ### the falling cut -/
def Noninc : List (List Nat) → Prop
  | [] => True
  | l :: r => (∀ m ∈ r.head?, Le m l) ∧ Noninc r
structure Fac (w : List Nat) (ls : List (List Nat)) : Prop where
  flat : ls.flatten = w
  lyn : ∀ l ∈ ls, Lyn l
  dec : Noninc ls
theorem Noninc.all {l : List Nat} : ∀ {r : List (List Nat)}, Noninc (l :: r) → ∀ m ∈ r, Le m l
  | [], _, m, hm => by cases hm
  | x :: r, h, m, hm => by
    have hx := h.1 x (by simp)
    rcases List.mem_cons.mp hm with e | e
    · rw [e]; exact hx
    · exact (Noninc.all h.2 m e).trans hx
/-- a beginning of the whole ends in a beginning of a part -/
theorem tail_in : ∀ {ls : List (List Nat)} {s r : List Nat}, s ≠ [] → s ++ r = ls.flatten → ∃ (z t : List Nat) (l : List Nat) (y : List Nat), s = z ++ t ∧ t ≠ [] ∧ l ∈ ls ∧ l = t ++ y
  | [], s, r, h, e => by
    simp at e
    exact (h e.1).elim
  | l :: ls, s, r, h, e => by
    rw [List.flatten_cons] at e
    rcases List.append_eq_append_iff.mp e with ⟨y, e1, e2⟩ | ⟨s', e1, e2⟩
    · exact ⟨[], s, l, y, rfl, h, List.mem_cons_self, e1⟩
    · by_cases hs : s' = []
      · subst hs
        rw [List.append_nil] at e1
        exact ⟨[], s, l, [], rfl, h, List.mem_cons_self, by rw [e1, List.append_nil]⟩
      · obtain ⟨z, t, l', y, k1, k2, k3, k4⟩ := tail_in hs e2.symm
        exact ⟨l ++ z, t, l', y, by rw [e1, k1, List.append_assoc], k2, List.mem_cons_of_mem _ k3, k4⟩
theorem no_longer {p s r : List Nat} {ls : List (List Nat)} (hp : p ≠ []) (hs : s ≠ []) (hl : Lyn (p ++ s)) (he : s ++ r = ls.flatten) (hle : ∀ l ∈ ls, Le l p) : False := by
  obtain ⟨z, t, l, y, e1, e2, e3, e4⟩ := tail_in hs he
  have lt1 : ltL (p ++ s) t = true := by
    have q := hl.2 (p ++ z).length (by
      rw [List.length_append]
      have : 0 < p.length := List.length_pos_iff.mpr hp
      omega) (by
      rw [e1, List.length_append, List.length_append, List.length_append]
      have : 0 < t.length := List.length_pos_iff.mpr e2
      omega)
    have e5 : p ++ s = (p ++ z) ++ t := by rw [e1, List.append_assoc]
    rw [e5, List.drop_left] at q
    rw [e5]; exact q
  have le2 : Le t l := by rw [e4]; exact pre t y
  have le3 := le2.trans (hle l e3)
  have lt4 := lt_le lt1 le3
  have lt5 := pre_lt p hs
  have := asym lt4
  rw [lt5] at this; cases this
theorem uniq : ∀ {ls ls' : List (List Nat)} {w : List Nat}, Fac w ls → Fac w ls' → ls = ls'
  | [], [], _, _, _ => rfl
  | [], l :: ls', w, h, h' => by
    have := h.flat
    rw [← h'.flat] at this
    simp at this
    exact ((h'.lyn l List.mem_cons_self).1 this.1).elim
  | l :: ls, [], w, h, h' => by
    have := h.flat
    rw [← h'.flat] at this
    simp at this
    exact ((h.lyn l List.mem_cons_self).1 this.1).elim
  | l :: ls, l' :: ls', w, h, h' => by
    have e : l ++ ls.flatten = l' ++ ls'.flatten := by
      have := h.flat
      rw [← h'.flat] at this
      exact this
    have main : ∀ {a b : List Nat} {as bs : List (List Nat)}, Fac w (a :: as) → Fac w (b :: bs) → ∀ s, b = a ++ s → as.flatten = s ++ bs.flatten → s = [] := fun {a b as bs} f g s e1 e2 => by
      by_cases hs : s = []
      · exact hs
      · exfalso
        refine no_longer (p := a) (s := s) (r := bs.flatten) (ls := as) (f.lyn a List.mem_cons_self).1 hs ?_ e2.symm fun x hx => f.dec.all x hx
        rw [← e1]
        exact g.lyn b List.mem_cons_self
    have el : l = l' := by
      rcases List.append_eq_append_iff.mp e with ⟨s, e1, e2⟩ | ⟨s, e1, e2⟩
      · have := main h h' s e1 e2
        rw [e1, this, List.append_nil]
      · have := main h' h s e1 e2
        rw [e1, this, List.append_nil]
    subst el
    have e2 := List.append_cancel_left e
    rw [uniq (w := ls.flatten) ⟨rfl, fun x hx => h.lyn x (List.mem_cons_of_mem _ hx), h.dec.2⟩ ⟨e2.symm, fun x hx => h'.lyn x (List.mem_cons_of_mem _ hx), h'.dec.2⟩]
/-! ### by places -/
theorem lt_of : ∀ (m : Nat) {a b : List Nat}, m < a.length → m < b.length → (∀ t, t < m → a.getD t 0 = b.getD t 0) → a.getD m 0 < b.getD m 0 → ltL a b = true
  | _, [], _, h, _, _, _ => by simp at h
  | _, _ :: _, [], _, h, _, _ => by simp at h
  | 0, x :: a, y :: b, _, _, _, h => by
    simp at h
    simp only [ltL]; rw [if_pos h]
  | m + 1, x :: a, y :: b, h1, h2, h3, h4 => by
    have e := h3 0 (by omega)
    simp at e
    simp only [ltL]
    rw [if_neg (by omega), if_pos e]
    refine lt_of m (by simpa using h1) (by simpa using h2) (fun t ht => ?_) (by simpa using h4)
    have := h3 (t + 1) (by omega)
    simpa using this
/-- by places, as a function -/
def LynF (f : Nat → Nat) (p : Nat) : Prop := 0 < p ∧ ∀ i, 0 < i → i < p → ∃ m, i + m < p ∧ (∀ t, t < m → f t = f (i + t)) ∧ f m < f (i + m)
def Per (f : Nat → Nat) (p a : Nat) : Prop := ∀ t, t + p < a → f t = f (t + p)
theorem Per.mod {f : Nat → Nat} {p a : Nat} (h : Per f p a) (hp : 0 < p) : ∀ t, t < a → f t = f (t % p) := fun t => by
  induction t using Nat.strongRecOn with
  | ind t ih =>
    intro ht
    by_cases hl : t < p
    · rw [Nat.mod_eq_of_lt hl]
    · have e := h (t - p) (by omega)
      rw [show t - p + p = t by omega] at e
      rw [← e, ih (t - p) (by omega) (by omega), ← Nat.mod_eq_sub_mod (by omega)]
theorem LynF.one (f : Nat → Nat) : LynF f 1 := ⟨by omega, fun i h1 h2 => by omega⟩
theorem Per.one (f : Nat → Nat) : Per f 1 1 := fun t h => by omega
theorem Per.step {f : Nat → Nat} {p a : Nat} (h : Per f p a) (hp : p ≤ a) (e : f (a - p) = f a) : Per f p (a + 1) := fun t ht => by
  by_cases hl : t + p < a
  · exact h t hl
  · have : t = a - p := by omega
    subst this
    rw [e, show a - p + p = a by omega]
theorem LynF.step {f : Nat → Nat} {p a : Nat} (h : LynF f p) (hP : Per f p a) (hpa : p ≤ a) (hlt : f (a - p) < f a) : LynF f (a + 1) := by
  have hp := h.1
  have md := hP.mod hp
  refine ⟨by omega, fun i i0 i1 => ?_⟩
  have ei : p * (i / p) + i % p = i := Nat.div_add_mod i p
  have hj : i % p < p := Nat.mod_lt _ hp
  -- (i + t) % p for small t
  have addm : ∀ t, i % p + t < p → (i + t) % p = i % p + t := fun t ht => by
    rw [Nat.add_mod, Nat.mod_eq_of_lt (show t < p by omega), Nat.mod_eq_of_lt ht]
  by_cases j0 : i % p = 0
  · have mul : ∀ t, (i + t) % p = t % p := fun t => by
      rw [Nat.add_mod, j0, Nat.zero_add, Nat.mod_mod]
    refine ⟨a - i, by omega, fun t ht => ?_, ?_⟩
    · rw [md (i + t) (by omega), mul, ← md t (by omega)]
    · have ip : p ≤ i := by
        rcases Nat.lt_or_ge i p with z | z
        · rw [Nat.mod_eq_of_lt z] at j0; omega
        · exact z
      have e1 : f (a - i) = f (a - p) := by
        rw [md (a - i) (by omega), md (a - p) (by omega)]
        have e2 : (a - p) % p = a % p := by rw [← Nat.mod_eq_sub_mod hpa]
        have e3 : a % p = (a - i) % p := by
          have := mul (a - i)
          rw [show i + (a - i) = a by omega] at this
          exact this
        rw [e2, e3]
      rw [e1, show i + (a - i) = a by omega]
      exact hlt
  · obtain ⟨m0, g1, g2, g3⟩ := h.2 (i % p) (by omega) hj
    by_cases hs : i + m0 < a
    · refine ⟨m0, by omega, fun t ht => ?_, ?_⟩
      · rw [md (i + t) (by omega), addm t (by omega)]
        exact g2 t ht
      · rw [md (i + m0) (by omega), addm m0 (by omega)]
        exact g3
    · refine ⟨a - i, by omega, fun t ht => ?_, ?_⟩
      · rw [md (i + t) (by omega), addm t (by omega)]
        exact g2 t (by omega)
      · rw [show i + (a - i) = a by omega]
        have e1 : f (a - p) = f (i % p + (a - i)) := by
          rw [md (a - p) (by omega), ← Nat.mod_eq_sub_mod hpa]
          have := addm (a - i) (by omega)
          rw [show i + (a - i) = a by omega] at this
          rw [this]
        have e2 : f (a - i) ≤ f (i % p + (a - i)) := by
          rcases Nat.lt_or_ge (a - i) m0 with z | z
          · exact Nat.le_of_eq (g2 _ z)
          · have : a - i = m0 := by omega
            rw [this]; exact Nat.le_of_lt g3
        omega
/-- a part of a word, by places -/
def seg (w : List Nat) (i p : Nat) : List Nat := (w.drop i).take p
theorem seg_len {w : List Nat} {i p : Nat} (h : i + p ≤ w.length) : (seg w i p).length = p := by
  unfold seg; rw [List.length_take, List.length_drop]; omega
theorem seg_get {w : List Nat} {i p t : Nat} (h : t < p) : (seg w i p).getD t 0 = w.getD (i + t) 0 := by
  unfold seg
  simp only [List.getD_eq_getElem?_getD, List.getElem?_take, h, if_true, List.getElem?_drop]
theorem lyn_of {w : List Nat} {i p : Nat} (hl : i + p ≤ w.length) (h : LynF (fun t => w.getD (i + t) 0) p) : Lyn (seg w i p) := by
  have l := seg_len hl
  refine ⟨fun e => ?_, fun k k0 k1 => ?_⟩
  · rw [e] at l
    have := h.1
    simp at l; omega
  · rw [l] at k1
    obtain ⟨m, g1, g2, g3⟩ := h.2 k k0 k1
    have gd : ∀ t, k + t < p → ((seg w i p).drop k).getD t 0 = w.getD (i + (k + t)) 0 := fun t ht => by
      rw [← seg_get (w := w) (i := i) ht]
      simp only [List.getD_eq_getElem?_getD, List.getElem?_drop]
    refine lt_of m (by omega) (by rw [List.length_drop, l]; omega) (fun t ht => ?_) ?_
    · rw [seg_get (by omega), gd t (by omega)]
      exact g2 t ht
    · rw [seg_get (by omega), gd m g1]
      exact g3
theorem ext_getD {a b : List Nat} (hl : a.length = b.length) (h : ∀ t, t < a.length → a.getD t 0 = b.getD t 0) : a = b := by
  apply List.ext_getElem hl
  intro t h1 h2
  have := h t h1
  simpa [List.getD_eq_getElem?_getD, List.getElem?_eq_getElem h1, List.getElem?_eq_getElem h2] using this
/-- what comes next is no greater -/
theorem next_le {w : List Nat} {i p a e n : Nat} (hp : 0 < p) (hpa : p ≤ a) (hP : Per (fun t => w.getD (i + t) 0) p a) (hia : i + a ≤ w.length) (he : e % p = 0) (h1 : a - p < e) (h2 : e ≤ a) (hend : i + a = w.length ∨ w.getD (i + a) 0 < w.getD (i + (a - p)) 0) (hn : i + e + n ≤ w.length) :
    Le (seg w (i + e) n) (seg w i p) := by
  have md := hP.mod hp
  have lu := seg_len (w := w) (i := i) (p := p) (by omega)
  have ll := seg_len (w := w) (i := i + e) (p := n) (by omega)
  have same : ∀ t, e + t < a → w.getD (i + e + t) 0 = w.getD (i + t) 0 := fun t ht => by
    have q1 := md (e + t) ht
    have q2 := md t (by omega)
    rw [show i + e + t = i + (e + t) by omega, q1, Nat.add_mod, he, Nat.zero_add, Nat.mod_mod, ← q2]
  by_cases hs : n ≤ a - e
  · -- a beginning
    have : seg w (i + e) n = (seg w i p).take n := by
      refine ext_getD (by rw [ll, List.length_take, lu]; omega) fun t ht => ?_
      rw [ll] at ht
      rw [seg_get ht, same t (by omega), ← seg_get (w := w) (i := i) (p := p) (t := t) (by omega)]
      simp only [List.getD_eq_getElem?_getD, List.getElem?_take, ht, if_true]
    have q := pre ((seg w i p).take n) ((seg w i p).drop n)
    rw [List.take_append_drop] at q
    rw [this]; exact q
  · have hlt : w.getD (i + a) 0 < w.getD (i + (a - p)) 0 := hend.resolve_left (by omega)
    refine asym (lt_of (a - e) (by omega) (by omega) (fun t ht => ?_) ?_)
    · rw [seg_get (by omega), seg_get (by omega), same t (by omega)]
    · rw [seg_get (by omega), seg_get (by omega), show i + e + (a - e) = i + a by omega]
      have e1 : w.getD (i + (a - p)) 0 = w.getD (i + (a - e)) 0 := by
        have q1 := md (a - p) (by omega)
        have q2 := md (a - e) (by omega)
        rw [q1, q2]
        have e2 : (a - p) % p = a % p := by rw [← Nat.mod_eq_sub_mod hpa]
        have e3 : a % p = (a - e) % p := by
          have : a = e + (a - e) := by omega
          rw [this, Nat.add_mod, he, Nat.zero_add, Nat.mod_mod, show e + (a - e) - e = a - e by omega]
        rw [e2, e3]
      rw [← e1]; exact hlt
end Lyn

set_option Elab.async false
set_option linter.all false
set_option maxRecDepth 100000
set_option maxHeartbeats 4000000
namespace GwK
open PySem L2 Gw
def topS (i : Nat) : Stmt := PySem.Challenge.pw_gardenworks_k03_words_told_by_falling_pa.main.body.getD i (.Pass ⟨0, 0, 0, 0⟩)
def ir_is_first_turn : Ss := (.cons (.ret (.and (.cmv .ne 0 (.cst (.str []))) (.gen .all (.cmv .lt 0 (.sli (.var 0) (.var 1) .nop)) (.nm 1) (.rng (.cons (.cst (.int 1)) (.cons (.lenv 0) .nil))) .nop))) .nil)
def nm_is_first_turn : List Str := ["word", "k"]
def ir_first_turns_of : Ss := (.cons (.par [1, 2] (.cons (.lst .nil) (.cons (.cst (.int 0)) .nil))) (.cons (.whl 100000 (.cmv .lt 2 (.lenv 0)) (.cons (.par [3, 4] (.cons (.var 2) (.cons (.bin .add (.var 2) (.cst (.int 1))) .nil))) (.cons (.whl 100000 (.and (.cmv .lt 4 (.lenv 0)) (.cmp .le (.idv 0 (.var 3)) (.idv 0 (.var 4)))) (.cons (.asg 3 (.ite (.cmp .lt (.idv 0 (.var 3)) (.idv 0 (.var 4))) (.var 2) (.bin .add (.var 3) (.cst (.int 1))))) (.cons (.aug 4 .add (.cst (.int 1))) .nil))) (.cons (.asg 5 (.bin .sub (.var 4) (.var 3))) (.cons (.whl 100000 (.cmv .le 2 (.var 3)) (.cons (.app 1 (.sli (.var 0) (.var 2) (.bin .add (.var 2) (.var 5)))) (.cons (.aug 2 .add (.var 5)) .nil))) .nil))))) (.cons (.ret (.bi .tuple (.cons (.var 1) .nil))) .nil)))
def nm_first_turns_of : List Str := ["word", "found", "at", "here", "ahead", "size"]
def ir__law_dice : Ss := (.cons (.ife (.chn .lt .lt (.bin .sub (.cst (.int 0)) (.cst (.int 10))) (.var 0) (.cst (.int 10))) (.cons (.ret (.lst (.cons (.bi .abs (.cons (.var 0) .nil)) (.cons (.cst (.int 0)) (.cons (.cst (.int 2)) .nil))))) .nil) .nil) (.cons (.ret (.lst (.cons (.var 0) (.cons (.bin .add (.cst (.int 1)) (.bin .mod (.bi .int (.cons (.var 0) .nil)) (.cst (.int 1009)))) (.cons (.bi .int (.cons (.cmv .ge 0 (.bin .pow (.cst (.int 10)) (.cst (.int 18)))) .nil)) .nil))))) .nil))
def nm__law_dice : List Str := ["cell"]
def ir__law_roll : Ss := (.cons (.ife (.or (.cmp .eq (.idv 0 (.cst (.int 2))) (.cst (.int 2))) (.and (.cmp .eq (.idv 0 (.cst (.int 2))) (.cst (.int 1))) (.cmp .gt (.idv 0 (.cst (.int 0))) (.cst (.int 0))))) (.cons (.asg 2 (.bin .mod (.bi .int (.cons (.idv 0 (.cst (.int 0))) .nil)) (.var 1))) (.cons (.set 0 (.cst (.int 0)) (.bin .fdiv (.idv 0 (.cst (.int 0))) (.var 1))) (.cons (.ret (.var 2)) .nil))) .nil) (.cons (.set 0 (.cst (.int 2)) (.cst (.int 0))) (.cons (.set 0 (.cst (.int 0)) (.bin .mod (.bi .int (.cons (.bin .add (.bin .add (.bin .mul (.idv 0 (.cst (.int 0))) (.cst (.int 48271))) (.bin .mul (.idv 0 (.cst (.int 1))) (.cst (.int 69621)))) (.cst (.int 11))) .nil)) (.cst (.int 2147483647)))) (.cons (.set 0 (.cst (.int 1)) (.bin .add (.idv 0 (.cst (.int 1))) (.cst (.int 1)))) (.cons (.ret (.bin .mod (.bi .int (.cons (.bin .add (.bin .fdiv (.idv 0 (.cst (.int 0))) (.cst (.int 7))) (.idv 0 (.cst (.int 0)))) .nil)) (.var 1))) .nil)))))
def nm__law_roll : List Str := ["dice", "many", "found"]
def ir__law_word : Ss := (.cons (.ret (.joi (.cst (.str [])) (.lc (.idv 2 (.car 3 0 (.cons (.lenv 2) .nil))) (.nm 3) (.rng (.cons (.car 3 0 (.cons (.bin .add (.var 1) (.cst (.int 1))) .nil)) .nil)) .nop))) .nil)
def nm__law_word : List Str := ["dice", "most", "letters", "k"]
def ir__law_first : Ss := (.cons (.ret (.and (.cmv .ne 0 (.cst (.str []))) (.cmp .eq (.lc (.var 1) (.nm 1) (.rng (.cons (.cst (.int 1)) (.cons (.lenv 0) .nil))) (.cmp .le (.sli (.var 0) (.var 1) .nop) (.var 0))) (.lst .nil)))) .nil)
def nm__law_first : List Str := ["word", "k"]
def ir__law_cuts : Ss := (.cons (.ife (.cmv .eq 0 (.cst (.str []))) (.cons (.ret (.lst (.cons (.tup .nil) .nil))) .nil) .nil) (.cons (.asg 1 (.lst .nil)) (.cons (.fors (.nm 2) (.rng (.cons (.cst (.int 1)) (.cons (.bin .add (.lenv 0) (.cst (.int 1))) .nil))) (.cons (.ife (.cal 5 (.cons (.sli (.var 0) .nop (.var 2)) .nil)) (.cons (.asg 1 (.bin .add (.var 1) (.lc (.bin .add (.tup (.cons (.sli (.var 0) .nop (.var 2)) .nil)) (.var 3)) (.nm 3) (.frz (.cal 6 (.cons (.sli (.var 0) (.var 2) .nop) .nil))) (.or (.cmv .eq 3 (.tup .nil)) (.cmp .le (.idv 3 (.cst (.int 0))) (.sli (.var 0) .nop (.var 2))))))) .nil) .nil) .nil)) (.cons (.ret (.var 1)) .nil))))
def nm__law_cuts : List Str := ["word", "found", "k", "rest"]
def ir_law : Ss := (.cons (.asg 2 (.car 4 1 (.cons (.cst (.int 12)) (.cons (.idx (.lst (.cons (.cst (.str [97, 98])) (.cons (.cst (.str [97, 98, 99])) (.cons (.cst (.str [97])) .nil)))) (.car 3 1 (.cons (.cst (.int 3)) .nil))) .nil)))) (.cons (.asg 3 (.cal 1 (.cons (.var 2) .nil))) (.cons (.ife (.or (.cmp .ne (.joi (.cst (.str [])) (.var 3)) (.var 2)) (.cmp .ne (.lc (.var 4) (.nm 4) (.frz (.var 3)) (.not (.cal 5 (.cons (.var 4) .nil)))) (.lst .nil))) (.cons (.ret (.cst (.bl false))) .nil) .nil) (.cons (.ife (.cmp .ne (.lc (.var 5) (.nm 5) (.rng (.cons (.cst (.int 1)) (.cons (.lenv 3) .nil))) (.cmp .gt (.idv 3 (.var 5)) (.idv 3 (.bin .sub (.var 5) (.cst (.int 1)))))) (.lst .nil)) (.cons (.ret (.cst (.bl false))) .nil) .nil) (.cons (.ife (.cmp .ne (.cal 6 (.cons (.sli (.var 2) .nop (.cst (.int 8))) .nil)) (.lst (.cons (.cal 1 (.cons (.sli (.var 2) .nop (.cst (.int 8))) .nil)) .nil))) (.cons (.ret (.cst (.bl false))) .nil) .nil) (.cons (.fors (.nm 5) (.rng (.cons (.lenv 2) .nil)) (.cons (.asg 4 (.sli (.var 2) (.var 5) .nop)) (.cons (.ife (.cmp .ne (.cal 0 (.cons (.var 4) .nil)) (.cal 5 (.cons (.var 4) .nil))) (.cons (.ret (.cst (.bl false))) .nil) .nil) (.cons (.asg 6 (.lc (.bin .add (.sli (.var 4) (.var 7) .nop) (.sli (.var 4) .nop (.var 7))) (.nm 7) (.rng (.cons (.cst (.int 1)) (.cons (.lenv 4) .nil))) .nop)) (.cons (.ife (.cmp .ne (.cal 0 (.cons (.var 4) .nil)) (.cmp .eq (.lc (.var 8) (.nm 8) (.frz (.var 6)) (.cmv .le 8 (.var 4))) (.lst .nil))) (.cons (.ret (.cst (.bl false))) .nil) .nil) .nil))))) .nil))))))
def ir_lawE : E := (.not (.cal 0 (.cons (.cst (.str [])) .nil)))
def nm_law : List Str := ["script", "dice", "word", "told", "part", "k", "others", "j", "one"]
def lawN : Int := 4
def dfs : List Df := [⟨"is_first_turn", nm_is_first_turn, 1, ir_is_first_turn, true⟩, ⟨"first_turns_of", nm_first_turns_of, 1, ir_first_turns_of, false⟩, ⟨"_law_dice", nm__law_dice, 1, ir__law_dice, false⟩, ⟨"_law_roll", nm__law_roll, 2, ir__law_roll, false⟩, ⟨"_law_word", nm__law_word, 3, ir__law_word, false⟩, ⟨"_law_first", nm__law_first, 1, ir__law_first, false⟩, ⟨"_law_cuts", nm__law_cuts, 1, ir__law_cuts, false⟩]
def gi : GI := ⟨["is_first_turn", "first_turns_of", "_law_dice", "_law_roll", "_law_word", "_law_first", "_law_cuts"], [], false⟩

theorem ok_is_first_turn : okSs (gi.on true) nm_is_first_turn (defScope (topS 1)) ir_is_first_turn (defBody (topS 1)) = true := by decide +kernel
theorem sc_is_first_turn : FnScope nm_is_first_turn ["word"] (defScope (topS 1)) := ⟨rfl, rfl, rfl, by decide +kernel, rfl, by decide +kernel, by decide +kernel⟩
theorem ok_first_turns_of : okSs (gi.on false) nm_first_turns_of (defScope (topS 2)) ir_first_turns_of (defBody (topS 2)) = true := by decide +kernel
theorem sc_first_turns_of : FnScope nm_first_turns_of ["word"] (defScope (topS 2)) := ⟨rfl, rfl, rfl, by decide +kernel, rfl, by decide +kernel, by decide +kernel⟩
theorem ok__law_dice : okSs (gi.on false) nm__law_dice (defScope (topS 4)) ir__law_dice (defBody (topS 4)) = true := by decide +kernel
theorem sc__law_dice : FnScope nm__law_dice ["cell"] (defScope (topS 4)) := ⟨rfl, rfl, rfl, by decide +kernel, rfl, by decide +kernel, by decide +kernel⟩
theorem ok__law_roll : okSs (gi.on false) nm__law_roll (defScope (topS 5)) ir__law_roll (defBody (topS 5)) = true := by decide +kernel
theorem sc__law_roll : FnScope nm__law_roll ["dice", "many"] (defScope (topS 5)) := ⟨rfl, rfl, rfl, by decide +kernel, rfl, by decide +kernel, by decide +kernel⟩
theorem ok__law_word : okSs (gi.on false) nm__law_word (defScope (topS 7)) ir__law_word (defBody (topS 7)) = true := by decide +kernel
theorem sc__law_word : FnScope nm__law_word ["dice", "most", "letters"] (defScope (topS 7)) := ⟨rfl, rfl, rfl, by decide +kernel, rfl, by decide +kernel, by decide +kernel⟩
theorem ok__law_first : okSs (gi.on false) nm__law_first (defScope (topS 8)) ir__law_first (defBody (topS 8)) = true := by decide +kernel
theorem sc__law_first : FnScope nm__law_first ["word"] (defScope (topS 8)) := ⟨rfl, rfl, rfl, by decide +kernel, rfl, by decide +kernel, by decide +kernel⟩
theorem ok__law_cuts : okSs (gi.on false) nm__law_cuts (defScope (topS 9)) ir__law_cuts (defBody (topS 9)) = true := by decide +kernel
theorem sc__law_cuts : FnScope nm__law_cuts ["word"] (defScope (topS 9)) := ⟨rfl, rfl, rfl, by decide +kernel, rfl, by decide +kernel, by decide +kernel⟩
theorem ok__law_rounds : okRound gi (defScope (topS 6)) 2 (defBody (topS 6)) = true := by decide +kernel
theorem sc__law_rounds : FnScope rndN ["script", "most"] (defScope (topS 6)) := ⟨rfl, rfl, rfl, by decide +kernel, rfl, by decide +kernel, by decide +kernel⟩
theorem ok_law : okLaw (gi.on false) nm_law (defScope (topS 10)) lawN ir_law ir_lawE (defBody (topS 10)) = true := by decide +kernel
theorem sc_law : FnScope nm_law ["script"] (defScope (topS 10)) := ⟨rfl, rfl, rfl, by decide +kernel, rfl, by decide +kernel, by decide +kernel⟩
end GwK

set_option Elab.async false
set_option linter.all false
set_option maxRecDepth 100000
set_option maxHeartbeats 1000000
namespace GwK
open PySem L2 Gw
local macro_rules | `(tactic| walk_at "set") => `(tactic| first | (simp only [List.set_cons_succ, List.set_cons_zero]; done) | (simp only [List.set_cons_succ, List.set_cons_zero]; rfl) | rfl)
local macro_rules | `(tactic| walk_at "len") => `(tactic| first | omega | (simp only [List.length_cons, List.length_nil, List.length_append, List.length_map]; omega) | (simp; omega))
local macro_rules | `(tactic| walk_at "cond") => `(tactic| first | rfl | assumption | (simp only [Rv.d, D.eqb, decide_eq_true_eq, decide_eq_false_iff_not, beq_iff_eq, bne_iff_ne, Bool.not_eq_true', Bool.not_eq_false', Bool.and_eq_true, Bool.or_eq_true, beq_eq_false_iff_ne]; first | assumption | omega) | (simp [Rv.d, D.eqb, *]; done))
local macro_rules | `(tactic| walk_at "leaf") => `(tactic| first | rfl | (refine dBin_add_str ?_; walk_at "len") | (refine dBin_mod ?_; omega) | (refine dBin_fdiv ?_ ?_ <;> omega) | (refine dBin_mulR ?_; decide) | (refine dBin_mulL ?_; decide) | (refine dBi_len_str ?_; walk_at "len") | (refine dCut_str ?_; walk_at "len") | (show _ ≤ 16777216; walk_at "len"))
local macro_rules | `(tactic| walk_at "call") => `(tactic| first | with_reducible assumption | (simp only [List.map_cons, List.map_nil, Rv.d]; with_reducible assumption))
local macro_rules | `(tactic| walk_at "ev") => `(tactic| repeat' (first
  | with_reducible exact ev_cst | with_reducible exact es_nil | with_reducible exact ss_nil | ((with_reducible apply ev_var); rfl) | ((with_reducible apply ev_own); rfl; walk_at "set")
  | with_reducible apply es_cons | with_reducible apply ss_cons | with_reducible exact seq_rt | ((with_reducible refine seq_rtb ?h); (case h => walk_at "cond")) | with_reducible apply seq_nx
  | ((with_reducible refine m_t ?h ?_); (case h => walk_at "cond")) | ((with_reducible refine m_f ?h ?_); (case h => walk_at "cond"))
  | with_reducible apply ev_bin | with_reducible apply ev_cmp | with_reducible apply ev_cmv | with_reducible apply ev_neg | with_reducible apply ev_chn | with_reducible apply ev_chn2 | with_reducible apply ev_and | with_reducible apply ev_or | with_reducible apply ev_not | with_reducible apply ev_ite | with_reducible apply ev_tup | with_reducible apply ev_lst | with_reducible apply ev_idv | with_reducible apply ev_idx | with_reducible apply ev_sli0 | with_reducible apply ev_sli1 | with_reducible apply ev_sli2 | with_reducible apply ev_sli3 | with_reducible apply ev_lenv | with_reducible apply ev_inv | with_reducible apply ev_bi | with_reducible apply ev_joi | with_reducible apply rs_asg | with_reducible apply rs_asg0 | with_reducible apply rs_ife | with_reducible apply rs_ret | with_reducible apply rs_exp | with_reducible apply rs_aug
  | with_reducible apply rs_setR | with_reducible apply rs_setO | with_reducible apply ev_cal | with_reducible apply rs_unp | with_reducible apply rs_par | with_reducible apply rs_app
  | walk_at "call"
  | walk_at "leaf" | walk_at "set"))

def cst : Nat → Option D := fun _ => none
/-! ### rules -/
section
variable {G : Glo} {ρ ρ1 ρ2 : Gw.Env} {c elt : Gw.E} {it : Gw.I}
theorem loopB_pure {turn : D → Gw.Env → Res (List D × Gw.Env)} {p : D → Bool} (ρ : Gw.Env) : ∀ ds : List D, (∀ x ∈ ds, turn x ρ = .ok ([.bl (p x)], ρ)) → loopB false turn ds ρ = .ok (ds.all p, ρ)
  | [], _ => rfl
  | x :: ds, h => by
    have q := loopB_pure ρ ds fun y hy => h y (List.mem_cons_of_mem _ hy)
    simp only [loopB, h x List.mem_cons_self, Res.ok_bind, List.all_cons]
    cases p x with
    | false => rfl
    | true => simp only [Bool.true_and]; exact q
theorem ev_all {v : Nat} {ds : List D} (p : D → Bool) (h1 : runI G it ρ = .ok (ds, ρ1, none)) (h2 : ρ1.at (v + 1) = .no) (hv : v + 1 < ρ1.length)
    (hf : ∀ x ∈ ds, runE G elt (ρ1.set (v + 1) (.val x)) = .ok (.val (.bl (p x)), ρ1.set (v + 1) (.val x))) : runE G (.gen .all elt (.nm (v + 1)) it .nop) ρ = .ok (.val (.bl (ds.all p)), ρ1) := by
  have hw : wipe ρ1 [v + 1] = ρ1 := by
    show ρ1.set (v + 1) .no = ρ1
    apply List.ext_getElem?
    intro j
    by_cases e : v + 1 = j
    · subst e
      rw [List.getElem?_set_self hv, at_get hv, h2]
    · rw [List.getElem?_set_ne e]
  have hww : ∀ x, wipe (ρ1.set (v + 1) (.val x)) [v + 1] = ρ1 := fun x => by
    show (ρ1.set (v + 1) (.val x)).set (v + 1) .no = ρ1
    rw [List.set_set]
    exact hw
  have hwip : wipable ρ1 (T.nm (v + 1)).slots = true := by
    simp only [T.slots, wipable, List.all_cons, List.all_nil, Bool.and_true, h2, decide_eq_true hv]
  simp only [runE, h1, Res.ok_bind, hwip, if_true]
  rw [show wipe ρ1 (T.nm (v + 1)).slots = ρ1 from hw, loopB_pure (p := p) ρ1 ds fun x hx => ?_]
  · rfl
  · refine turnC_ok (t := true) (ρ1 := ρ1.set (v + 1) (.val x)) (ρ2 := ρ1.set (v + 1) (.val x)) rfl rfl ?_
    show ((runE G elt (ρ1.set (v + 1) (.val x))).bind fun q => Res.ok ([q.1.d], q.2)).bind (fun q => .ok (q.1, wipe q.2 [v + 1])) = _
    rw [hf x hx]
    show Res.ok ([D.bl (p x)], wipe (ρ1.set (v + 1) (.val x)) [v + 1]) = _
    rw [hww]
end
theorem sIx_nat (n d i : Nat) : Gw.sIx n d (some (i : Int)) = min i n := by
  show (if (i : Int) < 0 then ((i : Int) + n).toNat else min (i : Int).toNat n) = _
  rw [if_neg (by omega), Int.toNat_natCast]
theorem cut_from (xs : List Nat) (i : Nat) : cut xs (some (i : Int)) none = xs.drop i := by
  unfold cut
  rw [sIx_nat, show Gw.sIx xs.length xs.length none = xs.length from rfl]
  rcases Nat.le_total i xs.length with h | h
  · rw [Nat.min_eq_left h, List.take_of_length_le (by rw [List.length_drop]; omega)]
  · rw [Nat.min_eq_right h, List.drop_of_length_le (Nat.le_refl _), List.drop_of_length_le h, List.take_nil]
theorem cut_to (xs : List Nat) (j : Nat) : cut xs none (some (j : Int)) = xs.take j := by
  unfold cut
  rw [sIx_nat, show Gw.sIx xs.length 0 none = 0 from rfl, List.drop_zero, Nat.sub_zero]
  rcases Nat.le_total j xs.length with h | h
  · rw [Nat.min_eq_left h]
  · rw [Nat.min_eq_right h, List.take_of_length_le (Nat.le_refl _), List.take_of_length_le h]
theorem cut_seg (xs : List Nat) (i p : Nat) (h : i + p ≤ xs.length) : cut xs (some (i : Int)) (some ((i : Int) + (p : Int))) = Lyn.seg xs i p := by
  rw [show (i : Int) + (p : Int) = ((i + p : Nat) : Int) by omega]
  unfold cut Lyn.seg
  rw [sIx_nat, sIx_nat, Nat.min_eq_left h, Nat.min_eq_left (show i ≤ xs.length by omega), show i + p - i = p by omega]
theorem ranged1 (n : Nat) : ranged 1 1 n = (List.range n).map fun k => D.int ((k + 1 : Nat) : Int) := by
  unfold ranged
  apply List.map_congr_left
  intro k _
  congr 1
  omega
theorem dRange1 {n : Nat} (h : n ≤ 1000000) : dRange [.int 1, .int (n : Int)] = some ((List.range (n - 1)).map fun k => D.int ((k + 1 : Nat) : Int)) := by
  have h1 : inR 1 = true := by decide
  have h2 : inR (n : Int) = true := by
    unfold inR
    rw [Bool.and_eq_true]
    exact ⟨decide_eq_true (by omega), decide_eq_true (by omega)⟩
  simp only [dRange, h1, h2, Bool.and_self, if_true]
  rw [show ((n : Int) - 1).toNat = n - 1 by omega, ranged1]
/-! ### is_first_turn, _law_first -/
def fst (w : List Nat) : Bool := !w.isEmpty && (List.range (w.length - 1)).all fun k => ltL w (w.drop (k + 1))
theorem fst_iff (w : List Nat) : fst w = true ↔ Lyn.Lyn w := by
  unfold fst Lyn.Lyn
  rw [Bool.and_eq_true, List.all_eq_true]
  constructor
  · intro ⟨h1, h2⟩
    refine ⟨(fun e => by rw [e] at h1; cases h1), fun k k0 k1 => ?_⟩
    have := h2 (k - 1) (List.mem_range.mpr (by omega))
    rwa [show k - 1 + 1 = k by omega] at this
  · intro ⟨h1, h2⟩
    refine ⟨?_, fun k hk => ?_⟩
    · cases w with
      | nil => exact (h1 rfl).elim
      | cons _ _ => rfl
    · have := List.mem_range.mp hk
      exact h2 (k + 1) (by omega) (by omega)
def pI (w : List Nat) : D → Bool
  | .int i => ltL w (w.drop i.toNat)
  | _ => false
theorem ne_nil {x : Nat} {w : List Nat} : dCmp .ne (.str (x :: w)) (.str []) = some true := rfl
theorem fn0 (n : Nat) (w : List Nat) (hw : w.length ≤ 1000) : ∃ ps, Phi dfs cst (n + 1) 0 [.val (.str w)] = .ok (.val (.bl (fst w)), ps) := by
  show ∃ ps, runF ⟨Phi dfs cst n, cst⟩ 2 1 ir_is_first_turn [.val (.str w)] = .ok (.val (.bl (fst w)), ps)
  refine run_ret0 rfl ⟨[.val (.str w), .no], ?_, by simp⟩
  show runSs ⟨Phi dfs cst n, cst⟩ ir_is_first_turn [.val (.str w), .no] = _
  unfold ir_is_first_turn
  cases w with
  | nil => rfl
  | cons x w =>
    refine ss_cons (f1 := .rt (.val (.bl (fst (x :: w)))) [.val (.str (x :: w)), .no]) (rs_ret (ev_and (x := .val (.bl true)) (ρ1 := [.val (.str (x :: w)), .no]) (t := true) (ev_cmv rfl ev_cst rfl ne_nil) rfl ?_)) seq_rt
    refine m_t rfl ?_
    have q := ev_all (G := ⟨Phi dfs cst n, cst⟩) (elt := .cmv .lt 0 (.sli (.var 0) (.var 1) .nop)) (v := 0) (it := .rng (.cons (.cst (.int 1)) (.cons (.lenv 0) .nil))) (ρ := [.val (.str (x :: w)), .no]) (ρ1 := [.val (.str (x :: w)), .no]) (ds := (List.range ((x :: w).length - 1)).map fun k => D.int ((k + 1 : Nat) : Int)) (pI (x :: w))
      (ri_rng (rs := [.val (.int 1), .val (.int (x :: w).length)]) (es_cons ev_cst (es_cons (ev_lenv rfl (dBi_len_str (by omega))) es_nil)) (dRange1 (by omega))) rfl (by simp) (fun y hy => ?_)
    · rw [q]
      congr 4
      unfold fst
      rw [List.all_map]
      rfl
    · obtain ⟨k, hk, rfl⟩ := List.mem_map.mp hy
      refine ev_cmv (d1 := .str (x :: w)) (d := .str (x :: w)) (x := .val (.str ((x :: w).drop (k + 1)))) rfl (ev_sli1 (x := .val (.str (x :: w))) (y := .val (.int ((k + 1 : Nat) : Int))) (p := some ((k + 1 : Nat) : Int)) rfl (ev_var rfl) (ev_var rfl) rfl ?_) rfl ?_
      · rw [show Rv.d (.val (.str (x :: w))) = .str (x :: w) from rfl, dCut_str (by omega), cut_from]
      · rfl
theorem ints_eq_nil (l : List D) (h : ∀ d ∈ l, ∃ i, d = .int i) : dCmp .eq (.lst l) (.lst []) = some l.isEmpty := by
  have h1 : D.plains l = true := by
    induction l with
    | nil => rfl
    | cons a l ih =>
      obtain ⟨i, rfl⟩ := h a List.mem_cons_self
      simp only [D.plains, D.plain, Bool.true_and]
      exact ih fun d hd => h d (List.mem_cons_of_mem _ hd)
  have h2 : D.depths l = 0 := by
    clear h1
    induction l with
    | nil => rfl
    | cons a l ih =>
      obtain ⟨i, rfl⟩ := h a List.mem_cons_self
      simp only [D.depths, D.depth, Nat.zero_max]
      exact ih fun d hd => h d (List.mem_cons_of_mem _ hd)
  simp only [dCmp, dEqO, D.scal, D.flat, D.shaped, D.plain, D.depth, h1, h2, D.plains, D.depths]
  cases l <;> rfl
theorem fn5 (n : Nat) (w : List Nat) (hw : w.length ≤ 1000) : ∃ ps, Phi dfs cst (n + 1) 5 [.val (.str w)] = .ok (.val (.bl (fst w)), ps) := by
  show ∃ ps, runF ⟨Phi dfs cst n, cst⟩ 2 1 ir__law_first [.val (.str w)] = .ok (.val (.bl (fst w)), ps)
  refine run_ret0 rfl ⟨[.val (.str w), .no], ?_, by simp⟩
  show runSs ⟨Phi dfs cst n, cst⟩ ir__law_first [.val (.str w), .no] = _
  unfold ir__law_first
  cases w with
  | nil => rfl
  | cons x w =>
    refine ss_cons (f1 := .rt (.val (.bl (fst (x :: w)))) [.val (.str (x :: w)), .no]) (rs_ret (ev_and (x := .val (.bl true)) (ρ1 := [.val (.str (x :: w)), .no]) (t := true) (ev_cmv rfl ev_cst rfl ne_nil) rfl ?_)) seq_rt
    refine m_t rfl ?_
    have q := ev_lc1 (G := ⟨Phi dfs cst n, cst⟩) (elt := .var 1) (c := .cmp .le (.sli (.var 0) (.var 1) .nop) (.var 0)) (v := 1) (it := .rng (.cons (.cst (.int 1)) (.cons (.lenv 0) .nil))) (ρ := [.val (.str (x :: w)), .no]) (ρ1 := [.val (.str (x :: w)), .no]) (ds := (List.range ((x :: w).length - 1)).map fun k => D.int ((k + 1 : Nat) : Int)) (fun d => !pI (x :: w) d) (fun d => d)
      (ri_rng (rs := [.val (.int 1), .val (.int (x :: w).length)]) (es_cons ev_cst (es_cons (ev_lenv rfl (dBi_len_str (by omega))) es_nil)) (dRange1 (by omega))) rfl (by simp) (by simp at hw ⊢; omega) (fun y hy => ?_) (fun y hy _ => ?_)
    · refine ev_cmp (x := .own (.lst _)) (y := .own (.lst [])) (ρ1 := [.val (.str (x :: w)), .no]) q (ev_lst es_nil (by simp) rfl) ?_
      show dCmp .eq (.lst _) (.lst []) = _
      rw [ints_eq_nil _ fun d hd => ?_]
      · congr 1
        unfold fst
        rw [List.map_id']
        show _ = (List.range ((x :: w).length - 1)).all fun k => ltL (x :: w) ((x :: w).drop (k + 1))
        generalize (x :: w).length - 1 = m
        rw [Bool.eq_iff_iff, List.isEmpty_iff, List.filter_eq_nil_iff, List.all_eq_true]
        constructor
        · intro h k hk
          have := h _ (List.mem_map.mpr ⟨k, hk, rfl⟩)
          simpa [pI] using this
        · intro h d hd
          obtain ⟨k, hk, rfl⟩ := List.mem_map.mp hd
          have := h k hk
          simp only [pI, Int.toNat_natCast, this]
          decide
      · rw [List.map_id'] at hd
        obtain ⟨k, hk, rfl⟩ := List.mem_map.mp (List.mem_filter.mp hd).1
        exact ⟨_, rfl⟩
    · obtain ⟨k, hk, rfl⟩ := List.mem_map.mp hy
      rw [if_neg (by decide)]
      have e : runE ⟨Phi dfs cst n, cst⟩ (.cmp .le (.sli (.var 0) (.var 1) .nop) (.var 0)) [.val (.str (x :: w)), .val (.int ((k + 1 : Nat) : Int))] = .ok (.val (.bl (!pI (x :: w) (.int ((k + 1 : Nat) : Int)))), [.val (.str (x :: w)), .val (.int ((k + 1 : Nat) : Int))]) := by
        refine ev_cmp (x := .val (.str ((x :: w).drop (k + 1)))) (y := .val (.str (x :: w))) (ev_sli1 (x := .val (.str (x :: w))) (y := .val (.int ((k + 1 : Nat) : Int))) (p := some ((k + 1 : Nat) : Int)) rfl (ev_var rfl) (ev_var rfl) rfl ?_) (ev_var rfl) ?_
        · rw [show Rv.d (.val (.str (x :: w))) = .str (x :: w) from rfl, dCut_str (by omega), cut_from]
        · rfl
      show (runE ⟨Phi dfs cst n, cst⟩ (.cmp .le (.sli (.var 0) (.var 1) .nop) (.var 0)) [.val (.str (x :: w)), .val (.int ((k + 1 : Nat) : Int))]).bind _ = _
      rw [e]; rfl
    · obtain ⟨k, hk, rfl⟩ := List.mem_map.mp hy
      exact ⟨.val (.int ((k + 1 : Nat) : Int)), rfl, ev_var rfl⟩
end GwK

set_option Elab.async false
set_option linter.all false
set_option maxRecDepth 100000
set_option maxHeartbeats 1000000
namespace GwK
open PySem L2 Gw
theorem cmpLt {a b : Int} {t : Bool} (h : decide (a < b) = t) : dCmp .lt (.int a) (.int b) = some t := by rw [← h]; rfl
theorem cmpLe {a b : Int} {t : Bool} (h : decide (a ≤ b) = t) : dCmp .le (.int a) (.int b) = some t := by rw [← h]; rfl
theorem lt1 (x y : Nat) : ltL [x] [y] = decide (x < y) := by
  simp only [ltL]
  by_cases h : x < y
  · rw [if_pos h, decide_eq_true h]
  · rw [if_neg h, decide_eq_false h]
    split <;> rfl
theorem cmpLt1 {x y : Nat} {t : Bool} (h : decide (x < y) = t) : dCmp .lt (.str [x]) (.str [y]) = some t := by rw [← h, ← lt1]; rfl
theorem cmpLe1 {x y : Nat} {t : Bool} (h : (!decide (y < x)) = t) : dCmp .le (.str [x]) (.str [y]) = some t := by rw [← h, ← lt1]; rfl
theorem atI_get {w : List Nat} {i : Nat} (h : i < w.length) : Gw.atI w (i : Int) = some (w.getD i 0) := by
  unfold Gw.atI Gw.ixN
  rw [if_pos (by omega), if_pos (by omega), Option.bind_some, Int.toNat_natCast]
  rw [List.getD_eq_getElem?_getD, List.getElem?_eq_getElem h]; rfl
theorem ix {w : List Nat} {i : Nat} (hw : w.length ≤ 1000) (h : i < w.length) : dIdx (.str w) (.int (i : Int)) = some (.str [w.getD i 0]) := dIdx_str (by omega) (atI_get h)
def ftC2 : Gw.E := (.and (.cmv .lt 4 (.lenv 0)) (.cmp .le (.idv 0 (.var 3)) (.idv 0 (.var 4))))
def ftB2 : Ss := (.cons (.asg 3 (.ite (.cmp .lt (.idv 0 (.var 3)) (.idv 0 (.var 4))) (.var 2) (.bin .add (.var 3) (.cst (.int 1))))) (.cons (.aug 4 .add (.cst (.int 1))) .nil))
def ftB3 : Ss := (.cons (.app 1 (.sli (.var 0) (.var 2) (.bin .add (.var 2) (.var 5)))) (.cons (.aug 2 .add (.var 5)) .nil))
def ftB1 : Ss := (.cons (.par [3, 4] (.cons (.var 2) (.cons (.bin .add (.var 2) (.cst (.int 1))) .nil))) (.cons (.whl 100000 ftC2 ftB2) (.cons (.asg 5 (.bin .sub (.var 4) (.var 3))) (.cons (.whl 100000 (.cmv .le 2 (.var 3)) ftB3) .nil))))
theorem ft_is : ir_first_turns_of = .cons (.par [1, 2] (.cons (.lst .nil) (.cons (.cst (.int 0)) .nil))) (.cons (.whl 100000 (.cmv .lt 2 (.lenv 0)) ftB1) (.cons (.ret (.bi .tuple (.cons (.var 1) .nil))) .nil)) := rfl
abbrev Cn (G : Glo) (c : Gw.E) : Gw.Env → Res (Bool × Gw.Env) := fun ρ => (runE G c ρ).bind fun p => truR p.1 p.2
abbrev Bn (G : Glo) (b : Ss) : Gw.Env → Res Fl := fun ρ => runSs G b ρ
theorem cn_ok {G : Glo} {c : Gw.E} {ρ ρ1 : Gw.Env} {t : Bool} (h : runE G c ρ = .ok (.val (.bl t), ρ1)) : Cn G c ρ = .ok (t, ρ1) := by
  show (runE G c ρ).bind _ = _
  rw [h]; rfl
/-- within a part -/
structure Inn (w : List Nat) (i h a : Nat) : Prop where
  ih : i ≤ h
  ha : h < a
  al : a ≤ w.length
  lyn : Lyn.LynF (fun t => w.getD (i + t) 0) (a - h)
  per : Lyn.Per (fun t => w.getD (i + t) 0) (a - h) (a - i)
def en (w : List Nat) (F : D) (i h a : Nat) (sz : Sl) : Gw.Env := [.val (.str w), .own F, .val (.int (i : Int)), .val (.int (h : Int)), .val (.int (a : Int)), sz]
theorem inner {G : Glo} {w : List Nat} (hw : w.length ≤ 1000) (F : D) (i : Nat) (sz : Sl) : ∀ (fuel h a : Nat), w.length - a < fuel → Inn w i h a → ∃ h' a', loopW (Cn G ftC2) (Bn G ftB2) fuel (en w F i h a sz) = .ok (.nx (en w F i h' a' sz)) ∧ Inn w i h' a' ∧ (a' = w.length ∨ w.getD a' 0 < w.getD h' 0)
  | 0, h, a, hf, _ => by omega
  | fuel + 1, h, a, hf, I => by
    have i1 := I.ih
    have i2 := I.ha
    have i3 := I.al
    by_cases e : a = w.length
    · refine ⟨h, a, whl_end (cn_ok ?_), I, .inl e⟩
      refine ev_and (x := .val (.bl false)) (t := false) (ev_cmv (d1 := .int (a : Int)) (d := .int (a : Int)) rfl (ev_lenv rfl (dBi_len_str (by omega))) rfl (cmpLt (decide_eq_false (by omega)))) rfl ?_
      exact m_f rfl rfl
    · have hal : a < w.length := by omega
      have c1 : runE G (.cmv .lt 4 (.lenv 0)) (en w F i h a sz) = .ok (.val (.bl true), en w F i h a sz) := ev_cmv (d1 := .int (a : Int)) (d := .int (a : Int)) rfl (ev_lenv rfl (dBi_len_str (by omega))) rfl (cmpLt (decide_eq_true (by omega)))
      have g3 : runE G (.idv 0 (.var 3)) (en w F i h a sz) = .ok (.val (.str [w.getD h 0]), en w F i h a sz) := ev_idv (d1 := .str w) (d2 := .str w) (y := .val (.int (h : Int))) rfl (ev_var rfl) rfl (ix hw (by omega))
      have g4 : runE G (.idv 0 (.var 4)) (en w F i h a sz) = .ok (.val (.str [w.getD a 0]), en w F i h a sz) := ev_idv (d1 := .str w) (d2 := .str w) (y := .val (.int (a : Int))) rfl (ev_var rfl) rfl (ix hw hal)
      by_cases hc : w.getD a 0 < w.getD h 0
      · refine ⟨h, a, whl_end (cn_ok ?_), I, .inr hc⟩
        refine ev_and (x := .val (.bl true)) (t := true) c1 rfl (m_t rfl ?_)
        exact ev_cmp (x := .val (.str [w.getD h 0])) (y := .val (.str [w.getD a 0])) g3 g4 (cmpLe1 (by rw [decide_eq_true hc]; rfl))
      · have hC : Cn G ftC2 (en w F i h a sz) = .ok (true, en w F i h a sz) := by
          refine cn_ok (ev_and (x := .val (.bl true)) (t := true) c1 rfl (m_t rfl ?_))
          exact ev_cmp (x := .val (.str [w.getD h 0])) (y := .val (.str [w.getD a 0])) g3 g4 (cmpLe1 (by rw [decide_eq_false hc]; rfl))
        have aug : ∀ h2 : Nat, runS G (.aug 4 .add (.cst (.int 1))) (en w F i h2 a sz) = .ok (.nx (en w F i h2 (a + 1) sz)) := fun h2 => rs_aug (d := .int (a : Int)) (d2 := .int (a : Int)) (d1 := .int ((a : Int) + 1)) rfl ev_cst rfl rfl rfl
        have f1 : i + (a - i) = a := by omega
        have f2 : i + (a - i - (a - h)) = h := by omega
        by_cases hlt : w.getD h 0 < w.getD a 0
        · have I' : Inn w i i (a + 1) := ⟨Nat.le_refl _, by omega, by omega, by
              have q := I.lyn.step I.per (by omega) (by
                show w.getD (i + (a - i - (a - h))) 0 < w.getD (i + (a - i)) 0
                rw [f1, f2]; exact hlt)
              rw [show a + 1 - i = a - i + 1 by omega]; exact q, fun t ht => by omega⟩
          obtain ⟨h', a', q1, q2, q3⟩ := inner hw F i sz fuel i (a + 1) (by omega) I'
          refine ⟨h', a', whl_step hC (f1 := .nx (en w F i i (a + 1) sz)) ?_ q1, q2, q3⟩
          refine ss_cons (f1 := .nx (en w F i i a sz)) (rs_asg (x := .val (.int (i : Int))) (ρ1 := en w F i h a sz) ?_ rfl) (ss_cons (aug i) (seq_nx ss_nil))
          exact ev_ite (x := .val (.bl true)) (t := true) (ev_cmp (x := .val (.str [w.getD h 0])) (y := .val (.str [w.getD a 0])) g3 g4 (cmpLt1 (decide_eq_true hlt))) rfl (m_t rfl (ev_var rfl))
        · have heq : w.getD h 0 = w.getD a 0 := by omega
          have I' : Inn w i (h + 1) (a + 1) := ⟨by omega, by omega, by omega, by
              rw [show a + 1 - (h + 1) = a - h by omega]; exact I.lyn, by
              rw [show a + 1 - (h + 1) = a - h by omega, show a + 1 - i = a - i + 1 by omega]
              refine I.per.step (by omega) ?_
              show w.getD (i + (a - i - (a - h))) 0 = w.getD (i + (a - i)) 0
              rw [f1, f2]; exact heq⟩
          obtain ⟨h', a', q1, q2, q3⟩ := inner hw F i sz fuel (h + 1) (a + 1) (by omega) I'
          refine ⟨h', a', whl_step hC (f1 := .nx (en w F i (h + 1) (a + 1) sz)) ?_ q1, q2, q3⟩
          refine ss_cons (f1 := .nx (en w F i (h + 1) a sz)) (rs_asg (x := .val (.int ((h : Int) + 1))) (ρ1 := en w F i h a sz) ?_ rfl) (ss_cons (aug (h + 1)) (seq_nx ss_nil))
          exact ev_ite (x := .val (.bl false)) (t := false) (ev_cmp (x := .val (.str [w.getD h 0])) (y := .val (.str [w.getD a 0])) g3 g4 (cmpLt1 (decide_eq_false hlt))) rfl (m_f rfl (ev_bin (x := .val (.int (h : Int))) (y := .val (.int 1)) (ev_var rfl) ev_cst rfl))
/-! ### the parts told -/
theorem snoc : ∀ {ls : List (List Nat)} {l : List Nat}, Lyn.Noninc ls → (∀ m ∈ ls.getLast?, Lyn.Le l m) → Lyn.Noninc (ls ++ [l])
  | [], l, _, _ => ⟨fun m hm => by simp at hm, trivial⟩
  | [x], l, h, hl => ⟨fun m hm => by
      simp at hm
      subst hm
      exact hl x (by simp), fun m hm => by simp at hm, trivial⟩
  | x :: y :: r, l, h, hl => ⟨fun m hm => h.1 m (by simpa using hm), snoc (ls := y :: r) h.2 fun m hm => hl m (by simpa [List.getLast?_cons_cons] using hm)⟩
structure Out (w : List Nat) (i : Nat) (ls : List (List Nat)) : Prop where
  il : i ≤ w.length
  flat : ls.flatten = w.take i
  lyn : ∀ l ∈ ls, Lyn.Lyn l
  dec : Lyn.Noninc ls
def sds (ls : List (List Nat)) : D := .lst (ls.map D.str)
theorem emit {G : Glo} {w : List Nat} (hw : w.length ≤ 1000) {h p : Nat} {u : List Nat} (hp : 0 < p) (hl : h + p ≤ w.length) (hu : Lyn.Lyn u) (a : Sl) {e0 : Nat} (hseg : ∀ i, i ≤ h → i % p = e0 % p → e0 ≤ i → Lyn.seg w i p = u) : ∀ (fuel i : Nat) (ls : List (List Nat)), h + p + 1 - i < fuel → i ≤ h + p → i % p = e0 % p → e0 ≤ i → Out w i ls → (∀ m ∈ ls.getLast?, Lyn.Le u m) → ls.length ≤ i → (h < i → ls.getLast? = some u) →
    ∃ (i' : Nat) (ls' : List (List Nat)), loopW (Cn G (.cmv .le 2 (.var 3))) (Bn G ftB3) fuel [.val (.str w), .own (sds ls), .val (.int (i : Int)), .val (.int (h : Int)), a, .val (.int (p : Int))] = .ok (.nx [.val (.str w), .own (sds ls'), .val (.int (i' : Int)), .val (.int (h : Int)), a, .val (.int (p : Int))]) ∧ h < i' ∧ i' ≤ h + p ∧ i' % p = e0 % p ∧ Out w i' ls' ∧ ls'.getLast? = some u ∧ ls'.length ≤ i'
  | 0, i, ls, hf, _, _, _, _, _, _, _ => by omega
  | fuel + 1, i, ls, hf, hi, hm, he, O, hlast, hlen, hdone => by
    by_cases hc : i ≤ h
    · have es := hseg i hc hm he
      have O' : Out w (i + p) (ls ++ [u]) := ⟨by omega, by
          rw [List.flatten_append, O.flat, ← es]
          simp only [List.flatten_cons, List.flatten_nil, List.append_nil]
          unfold Lyn.seg
          rw [List.take_add], fun l hl => by
          rcases List.mem_append.mp hl with z | z
          · exact O.lyn l z
          · rw [List.mem_singleton.mp z]; exact hu, snoc O.dec hlast⟩
      obtain ⟨i', ls', q1, q2⟩ := emit hw hp hl hu a hseg fuel (i + p) (ls ++ [u]) (by omega) (by omega) (by rw [Nat.add_mod_right]; exact hm) (by omega) O' (fun m hm => by
        simp at hm
        subst hm
        exact Lyn.irr _) (by simp; omega) (fun _ => by simp)
      refine ⟨i', ls', whl_step (ρ1 := [.val (.str w), .own (sds ls), .val (.int (i : Int)), .val (.int (h : Int)), a, .val (.int (p : Int))]) (f1 := .nx [.val (.str w), .own (sds (ls ++ [u])), .val (.int ((i + p : Nat) : Int)), .val (.int (h : Int)), a, .val (.int (p : Int))]) ?_ ?_ q1, q2⟩
      · exact cn_ok (ev_cmv (d1 := .int (i : Int)) (d := .int (i : Int)) (x := .val (.int (h : Int))) rfl (ev_var rfl) rfl (cmpLe (decide_eq_true (by omega))))
      · refine ss_cons (f1 := .nx [.val (.str w), .own (sds (ls ++ [u])), .val (.int (i : Int)), .val (.int (h : Int)), a, .val (.int (p : Int))]) (rs_app (l := ls.map D.str) (l' := ls.map D.str) (x := .val (.str u)) (ρ1 := [.val (.str w), .own (sds ls), .val (.int (i : Int)), .val (.int (h : Int)), a, .val (.int (p : Int))]) rfl ?_ rfl (by rw [List.length_map]; omega) ?_) (ss_cons (rs_aug (d := .int (i : Int)) (d2 := .int (i : Int)) (d1 := .int ((i : Int) + (p : Int))) rfl (ev_var rfl) rfl rfl (by rfl)) (seq_nx ss_nil))
        · refine ev_sli3 (x := .val (.str w)) (y := .val (.int (i : Int))) (z := .val (.int ((i : Int) + (p : Int)))) (p := some (i : Int)) (q := some ((i : Int) + (p : Int))) rfl rfl (ev_var rfl) (ev_var rfl) rfl (ev_bin (x := .val (.int (i : Int))) (y := .val (.int (p : Int))) (ev_var rfl) (ev_var rfl) rfl) rfl ?_
          rw [show Rv.d (.val (.str w)) = .str w from rfl, dCut_str (by omega), cut_seg _ _ _ (by omega), es]
        · show [Sl.val (.str w), Sl.own (.lst (ls.map D.str ++ [D.str u])), _, _, _, _] = _
          unfold sds
          rw [List.map_append]; rfl
    · refine ⟨i, ls, whl_end (cn_ok (ev_cmv (d1 := .int (i : Int)) (d := .int (i : Int)) (x := .val (.int (h : Int))) rfl (ev_var rfl) rfl (cmpLe (decide_eq_false (by omega))))), by omega, hi, hm, O, hdone (by omega), hlen⟩
theorem outer {G : Glo} {w : List Nat} (hw : w.length ≤ 1000) : ∀ (fuel i : Nat) (ls : List (List Nat)) (s3 s4 s5 : Sl), w.length - i < fuel → Out w i ls → (∀ n, i + n ≤ w.length → ∀ m ∈ ls.getLast?, Lyn.Le (Lyn.seg w i n) m) → ls.length ≤ i →
    ∃ ls' s3' s4' s5', loopW (Cn G (.cmv .lt 2 (.lenv 0))) (Bn G ftB1) fuel [.val (.str w), .own (sds ls), .val (.int (i : Int)), s3, s4, s5] = .ok (.nx [.val (.str w), .own (sds ls'), .val (.int (w.length : Int)), s3', s4', s5']) ∧ Out w w.length ls'
  | 0, i, ls, _, _, _, hf, _, _, _ => by omega
  | fuel + 1, i, ls, s3, s4, s5, hf, O, hnext, hlen => by
    have il := O.il
    by_cases e : i = w.length
    · subst e
      exact ⟨ls, s3, s4, s5, whl_end (cn_ok (ev_cmv (d1 := .int (w.length : Int)) (d := .int (w.length : Int)) (x := .val (.int (w.length : Int))) rfl (ev_lenv rfl (dBi_len_str (by omega))) rfl (cmpLt (decide_eq_false (by omega))))), O⟩
    · have I0 : Inn w i i (i + 1) := ⟨Nat.le_refl _, by omega, by omega, by rw [show i + 1 - i = 1 by omega]; exact .one _, by rw [show i + 1 - i = 1 by omega]; exact .one _⟩
      obtain ⟨h, a, q1, I, hend⟩ := inner (G := G) hw (sds ls) i s5 100000 i (i + 1) (by omega) I0
      have i1 := I.ih
      have i2 := I.ha
      have i3 := I.al
      have hu := Lyn.lyn_of (w := w) (i := i) (p := a - h) (by omega) I.lyn
      have hseg : ∀ j, j ≤ h → j % (a - h) = i % (a - h) → i ≤ j → Lyn.seg w j (a - h) = Lyn.seg w i (a - h) := fun j j1 j2 j3 => by
        refine Lyn.ext_getD (by rw [Lyn.seg_len (by omega), Lyn.seg_len (by omega)]) fun t ht => ?_
        rw [Lyn.seg_len (by omega)] at ht
        rw [Lyn.seg_get ht, Lyn.seg_get ht]
        have md := I.per.mod (by omega)
        have m1 := md (j - i + t) (by omega)
        have m2 := md t (by omega)
        have hz : (j - i) % (a - h) = 0 := Nat.sub_mod_eq_zero_of_mod_eq j2
        rw [Nat.add_mod, hz, Nat.zero_add, Nat.mod_mod] at m1
        have m3 := m1.trans m2.symm
        have m4 : w.getD (i + (j - i + t)) 0 = w.getD (i + t) 0 := m3
        rw [show i + (j - i + t) = j + t by omega] at m4
        exact m4
      obtain ⟨i', ls', q2, p1, p2, p3, O', p4, p5⟩ := emit (G := G) hw (h := h) (p := a - h) (u := Lyn.seg w i (a - h)) (by omega) (by omega) hu (.val (.int (a : Int))) (e0 := i) hseg 100000 i ls (by omega) (by omega) rfl (Nat.le_refl _) O (fun m hm => hnext (a - h) (by omega) m hm) hlen (fun z => by omega)
      obtain ⟨ls2, t3, t4, t5, q3, O2⟩ := outer hw fuel i' ls' (.val (.int (h : Int))) (.val (.int (a : Int))) (.val (.int ((a - h : Nat) : Int))) (by omega) O' (fun n hn m hm => by
        rw [p4] at hm
        cases hm
        have hz : (i' - i) % (a - h) = 0 := Nat.sub_mod_eq_zero_of_mod_eq p3
        have q := Lyn.next_le (w := w) (i := i) (p := a - h) (a := a - i) (e := i' - i) (n := n) (by omega) (by omega) I.per (by omega) hz (by omega) (by omega) (by
          rcases hend with z | z
          · left; omega
          · right
            rw [show i + (a - i) = a by omega, show i + (a - i - (a - h)) = h by omega]
            exact z) (by omega)
        rw [show i + (i' - i) = i' by omega] at q
        exact q) p5
      refine ⟨ls2, t3, t4, t5, whl_step (ρ1 := [.val (.str w), .own (sds ls), .val (.int (i : Int)), s3, s4, s5]) (f1 := .nx [.val (.str w), .own (sds ls'), .val (.int (i' : Int)), .val (.int (h : Int)), .val (.int (a : Int)), .val (.int ((a - h : Nat) : Int))]) ?_ ?_ q3, O2⟩
      · exact cn_ok (ev_cmv (d1 := .int (i : Int)) (d := .int (i : Int)) (x := .val (.int (w.length : Int))) rfl (ev_lenv rfl (dBi_len_str (by omega))) rfl (cmpLt (decide_eq_true (by omega))))
      · refine ss_cons (f1 := .nx (en w (sds ls) i i (i + 1) s5)) (rs_par (rs := [.val (.int (i : Int)), .val (.int ((i : Int) + 1))]) (es_cons (ev_var rfl) (es_cons (ev_bin (x := .val (.int (i : Int))) (y := .val (.int 1)) (ev_var rfl) ev_cst rfl) es_nil)) rfl) ?_
        refine ss_cons (f1 := .nx (en w (sds ls) i h a s5)) (rs_whl q1) (seq_nx ?_)
        refine ss_cons (f1 := .nx [.val (.str w), .own (sds ls), .val (.int (i : Int)), .val (.int (h : Int)), .val (.int (a : Int)), .val (.int ((a - h : Nat) : Int))]) (rs_asg (x := .val (.int ((a : Int) - (h : Int)))) (ev_bin (x := .val (.int (a : Int))) (y := .val (.int (h : Int))) (ev_var rfl) (ev_var rfl) rfl) ?_) ?_
        · rw [show (a : Int) - (h : Int) = ((a - h : Nat) : Int) by omega]; rfl
        · exact ss_cons (rs_whl q2) (seq_nx ss_nil)
theorem fn1 (n : Nat) (w : List Nat) (hw : w.length ≤ 1000) : ∃ ls ps, Lyn.Fac w ls ∧ Phi dfs cst (n + 1) 1 [.val (.str w)] = .ok (.val (.tup (ls.map D.str)), ps) := by
  obtain ⟨ls, s3, s4, s5, q, O⟩ := outer (G := ⟨Phi dfs cst n, cst⟩) hw 100000 0 [] .no .no .no (by omega) ⟨by omega, rfl, (fun l hl => by cases hl), trivial⟩ (fun n hn m hm => by cases hm) (Nat.le_refl _)
  have hF : Lyn.Fac w ls := ⟨by rw [O.flat, List.take_of_length_le (Nat.le_refl _)], O.lyn, O.dec⟩
  have h : ∃ ps, runF ⟨Phi dfs cst n, cst⟩ 6 1 ir_first_turns_of [.val (.str w)] = .ok (.val (.tup (ls.map D.str)), ps) := by
    refine run_ret0 rfl ⟨[.val (.str w), .val (sds ls), .val (.int (w.length : Int)), s3, s4, s5], ?_, by simp⟩
    show runSs ⟨Phi dfs cst n, cst⟩ ir_first_turns_of [.val (.str w), .no, .no, .no, .no, .no] = _
    rw [ft_is]
    refine ss_cons (f1 := .nx [.val (.str w), .own (sds []), .val (.int 0), .no, .no, .no]) (rs_par (rs := [.own (.lst []), .val (.int 0)]) (es_cons (ev_lst es_nil (by simp) rfl) (es_cons ev_cst es_nil)) rfl) ?_
    refine ss_cons (f1 := .nx _) (rs_whl q) (seq_nx ?_)
    exact ss_cons (rs_ret (ev_bi (rs := [.val (sds ls)]) (es_cons (ev_own rfl rfl) es_nil) rfl)) seq_rt
  obtain ⟨ps, h⟩ := h
  exact ⟨ls, ps, hF, h⟩
end GwK

set_option Elab.async false
set_option linter.all false
set_option maxRecDepth 100000
set_option maxHeartbeats 1000000
namespace GwK
open PySem L2 Gw
/-! ### the one falling cut -/
open Classical in
noncomputable def cfl (w : List Nat) : List (List Nat) := if h : ∃ ls, Lyn.Fac w ls then Classical.choose h else []
theorem cfl_is {w : List Nat} {ls : List (List Nat)} (h : Lyn.Fac w ls) : cfl w = ls := by
  have e : ∃ ls, Lyn.Fac w ls := ⟨ls, h⟩
  unfold cfl
  rw [dif_pos e]
  exact Lyn.uniq (Classical.choose_spec e) h
theorem cfl_ok {w : List Nat} (hw : w.length ≤ 1000) : Lyn.Fac w (cfl w) := by
  obtain ⟨ls, _, h, _⟩ := fn1 0 w hw
  rw [cfl_is h]; exact h
def pc (a : List Nat) : List (List Nat) → Bool
  | [] => true
  | l :: _ => !ltL a l
noncomputable def contrib (w : List Nat) (k : Nat) : List (List (List Nat)) := if fst (w.take k) && pc (w.take k) (cfl (w.drop k)) then [w.take k :: cfl (w.drop k)] else []
theorem flat_one {α : Type} (x : α) (j : Nat) : ∀ n : Nat, (List.range n).flatMap (fun k => if k = j then [x] else []) = if j < n then [x] else []
  | 0 => rfl
  | n + 1 => by
    rw [List.range_succ, List.flatMap_append, flat_one x j n]
    simp only [List.flatMap_cons, List.flatMap_nil, List.append_nil]
    by_cases h1 : n = j
    · subst h1
      rw [if_neg (Nat.lt_irrefl _), if_pos rfl, if_pos (by omega)]; rfl
    · rw [if_neg h1, List.append_nil]
      by_cases h2 : j < n
      · rw [if_pos h2, if_pos (by omega)]
      · rw [if_neg h2, if_neg (by omega)]
theorem cuts_one {w : List Nat} (hw : w.length ≤ 1000) (hne : w ≠ []) : (List.range w.length).flatMap (fun k => contrib w (k + 1)) = [cfl w] := by
  have F := cfl_ok hw
  cases e : cfl w with
  | nil =>
    rw [e] at F
    exact (hne F.flat.symm).elim
  | cons l r =>
    rw [e] at F
    have hl := F.lyn l List.mem_cons_self
    have fl : l ++ r.flatten = w := F.flat
    have l0 : 0 < l.length := List.length_pos_iff.mpr hl.1
    have l1 : l.length ≤ w.length := by rw [← fl, List.length_append]; omega
    have ht : w.take l.length = l := by rw [← fl]; exact List.take_left
    have hd : w.drop l.length = r.flatten := by rw [← fl]; exact List.drop_left
    have Fr : Lyn.Fac (w.drop l.length) r := ⟨hd.symm, fun x hx => F.lyn x (List.mem_cons_of_mem _ hx), F.dec.2⟩
    have key : ∀ k, k < w.length → contrib w (k + 1) = if k = l.length - 1 then [l :: r] else [] := fun k hk => by
      by_cases hk0 : k = l.length - 1
      · rw [if_pos hk0, show k + 1 = l.length by omega]
        unfold contrib
        rw [ht, cfl_is Fr, (fst_iff l).mpr hl]
        have : pc l r = true := by
          cases r with
          | nil => rfl
          | cons m r =>
            have := F.dec.1 m (by simp)
            show (!ltL l m) = true
            rw [show ltL l m = false from this]; rfl
        rw [this]; rfl
      · rw [if_neg hk0]
        unfold contrib
        cases hc : fst (w.take (k + 1)) && pc (w.take (k + 1)) (cfl (w.drop (k + 1))) with
        | false => rfl
        | true =>
          exfalso
          rw [Bool.and_eq_true] at hc
          have Fd := cfl_ok (w := w.drop (k + 1)) (by rw [List.length_drop]; omega)
          have FF : Lyn.Fac w (w.take (k + 1) :: cfl (w.drop (k + 1))) := ⟨by
              rw [List.flatten_cons, Fd.flat, List.take_append_drop], fun x hx => by
              rcases List.mem_cons.mp hx with z | z
              · rw [z]; exact (fst_iff _).mp hc.1
              · exact Fd.lyn x z, fun m hm => by
              cases ec : cfl (w.drop (k + 1)) with
              | nil => rw [ec] at hm; simp at hm
              | cons m2 r2 =>
                rw [ec] at hm
                simp at hm
                subst hm
                have := hc.2
                rw [ec] at this
                show ltL (w.take (k + 1)) m2 = false
                simpa [pc] using this, Fd.dec⟩
          have q := Lyn.uniq FF F
          have q1 : w.take (k + 1) = l := (List.cons.inj q).1
          have : (w.take (k + 1)).length = l.length := by rw [q1]
          rw [List.length_take] at this
          omega
    have : (List.range w.length).flatMap (fun k => contrib w (k + 1)) = (List.range w.length).flatMap fun k => if k = l.length - 1 then [l :: r] else [] := by
      have gen : ∀ L : List Nat, (∀ k ∈ L, k < w.length) → L.flatMap (fun k => contrib w (k + 1)) = L.flatMap fun k => if k = l.length - 1 then [l :: r] else [] := fun L => by
        induction L with
        | nil => intro _; rfl
        | cons k L ih =>
          intro h
          rw [List.flatMap_cons, List.flatMap_cons, key k (h k List.mem_cons_self), ih fun x hx => h x (List.mem_cons_of_mem _ hx)]
      exact gen _ fun k hk => List.mem_range.mp hk
    rw [this, flat_one, if_pos (by omega)]
/-! ### plain data -/
def Sm (w : List Nat) : Prop := ∀ c ∈ w, c < 1114112
theorem Sm.plain {w : List Nat} (h : Sm w) : D.plain (.str w) = true := by
  simp only [D.plain, List.all_eq_true]
  intro c hc
  exact decide_eq_true (h c hc)
theorem plains_str : ∀ {ls : List (List Nat)}, (∀ l ∈ ls, Sm l) → D.plains (ls.map D.str) = true
  | [], _ => rfl
  | l :: ls, h => by
    rw [List.map_cons]
    simp only [D.plains, (h l List.mem_cons_self).plain, Bool.true_and]
    exact plains_str fun x hx => h x (List.mem_cons_of_mem _ hx)
theorem depths_str : ∀ {ls : List (List Nat)}, D.depths (ls.map D.str) = 0
  | [] => rfl
  | l :: ls => by
    rw [List.map_cons]
    simp only [D.depths, D.depth, Nat.zero_max]
    exact depths_str
theorem eqbs_refl : ∀ (ls : List (List Nat)), D.eqbs (ls.map D.str) (ls.map D.str) = true
  | [] => rfl
  | l :: ls => by
    rw [List.map_cons]
    simp only [D.eqbs, D.eqb, beq_self_eq_true, Bool.true_and]
    exact eqbs_refl ls
theorem Sm.parts {w : List Nat} {ls : List (List Nat)} (h : Sm w) (e : ls.flatten = w) : ∀ l ∈ ls, Sm l := fun l hl c hc => h c (by rw [← e]; exact List.mem_flatten.mpr ⟨l, hl, hc⟩)
theorem tup_eq_nil {ls : List (List Nat)} (h : ∀ l ∈ ls, Sm l) : dCmp .eq (.tup (ls.map D.str)) (.tup []) = some ls.isEmpty := by
  simp only [dCmp, dEqO, D.scal, D.flat, D.shaped, D.plain, D.depth, plains_str h, depths_str, D.plains, D.depths]
  cases ls <;> rfl
theorem cut_ne {ls : List (List Nat)} (h : ∀ l ∈ ls, Sm l) : dCmp .ne (.lst [.tup (ls.map D.str)]) (.lst [.tup (ls.map D.str)]) = some false := by
  simp only [dCmp, dEqO, D.scal, D.flat, D.shaped, D.plain, D.depth, plains_str h, depths_str, D.plains, D.depths, D.eqb, D.eqbs, eqbs_refl]
  rfl
/-! ### _law_cuts -/
def cuD (s : List (List (List Nat))) : D := .lst (s.map fun ls => .tup (ls.map D.str))
def cuLC : Gw.E := (.lc (.bin .add (.tup (.cons (.sli (.var 0) .nop (.var 2)) .nil)) (.var 3)) (.nm 3) (.frz (.cal 6 (.cons (.sli (.var 0) (.var 2) .nop) .nil))) (.or (.cmv .eq 3 (.tup .nil)) (.cmp .le (.idv 3 (.cst (.int 0))) (.sli (.var 0) .nop (.var 2)))))
def cuB : Ss := (.cons (.ife (.cal 5 (.cons (.sli (.var 0) .nop (.var 2)) .nil)) (.cons (.asg 1 (.bin .add (.var 1) cuLC)) .nil) .nil) .nil)
theorem cu_is : ir__law_cuts = .cons (.ife (.cmv .eq 0 (.cst (.str []))) (.cons (.ret (.lst (.cons (.tup .nil) .nil))) .nil) .nil) (.cons (.asg 1 (.lst .nil)) (.cons (.fors (.nm 2) (.rng (.cons (.cst (.int 1)) (.cons (.bin .add (.lenv 0) (.cst (.int 1))) .nil))) cuB) (.cons (.ret (.var 1)) .nil))) := rfl
theorem sli_to {G : Glo} {ρ : Gw.Env} {i : Nat} {c : Gw.E} {w : List Nat} {k : Nat} (hn : c.isNop = false) (hw : w.length ≤ 1000) (h0 : ρ.at i = .val (.str w)) (h2 : runE G c ρ = .ok (.val (.int (k : Int)), ρ)) : runE G (.sli (.var i) .nop c) ρ = .ok (.val (.str (w.take k)), ρ) := by
  refine ev_sli2 (x := .val (.str w)) (y := .val (.int (k : Int))) (p := some (k : Int)) hn (ev_var h0) h2 rfl ?_
  rw [show Rv.d (.val (.str w)) = .str w from rfl, dCut_str (by omega), cut_to]
theorem sli_from {G : Glo} {ρ : Gw.Env} {i : Nat} {c : Gw.E} {w : List Nat} {k : Nat} (hn : c.isNop = false) (hw : w.length ≤ 1000) (h0 : ρ.at i = .val (.str w)) (h2 : runE G c ρ = .ok (.val (.int (k : Int)), ρ)) : runE G (.sli (.var i) c .nop) ρ = .ok (.val (.str (w.drop k)), ρ) := by
  refine ev_sli1 (x := .val (.str w)) (y := .val (.int (k : Int))) (p := some (k : Int)) hn (ev_var h0) h2 rfl ?_
  rw [show Rv.d (.val (.str w)) = .str w from rfl, dCut_str (by omega), cut_from]
def cuP (a : List Nat) : D → Bool
  | .tup [] => true
  | .tup (.str l :: _) => !ltL a l
  | _ => false
def cuF (a : List Nat) : D → D
  | .tup ls => .tup (.str a :: ls)
  | d => d
theorem idx0 {d : D} {ds : List D} : dIdx (.tup (d :: ds)) (.int 0) = some d := by
  simp only [dIdx, Gw.atI, Gw.ixN, List.length_cons]
  rw [if_pos (by omega), if_pos (by omega)]
  rfl
theorem cu_lc {G : Glo} {w v : List Nat} {F : D} {k : Nat} {r : Rv} {ps : List Sl} {ls : List (List Nat)} (hw : w.length ≤ 1000) (hls : ls.length ≤ 1000) (hsm : ∀ l ∈ ls, Sm l) (hr : r.d = .lst [.tup (ls.map D.str)]) (h6 : G.fn 6 [.val (.str (w.drop k))] = .ok (r, ps)) :
    runE G cuLC [.val (.str w), .val F, .val (.int (k : Int)), .no] = .ok (.own (cuD (if pc (w.take k) ls then [w.take k :: ls] else [])), [.val (.str w), .val F, .val (.int (k : Int)), .no]) := by
  have q := ev_lc1 (G := G) (elt := .bin .add (.tup (.cons (.sli (.var 0) .nop (.var 2)) .nil)) (.var 3)) (c := .or (.cmv .eq 3 (.tup .nil)) (.cmp .le (.idv 3 (.cst (.int 0))) (.sli (.var 0) .nop (.var 2)))) (v := 3) (it := .frz (.cal 6 (.cons (.sli (.var 0) (.var 2) .nop) .nil))) (ρ := [.val (.str w), .val F, .val (.int (k : Int)), .no]) (ρ1 := [.val (.str w), .val F, .val (.int (k : Int)), .no]) (ds := [.tup (ls.map D.str)]) (cuP (w.take k)) (cuF (w.take k))
    (ri_frz (x := r) (ev_cal (rs := [.val (.str (w.drop k))]) (es_cons (sli_from rfl hw rfl (ev_var rfl)) es_nil) h6) (by rw [hr]; rfl)) rfl (by simp) (by simp) (fun x hx => ?_) (fun x hx _ => ?_)
  · unfold cuLC
    rw [q]
    cases ls with
    | nil => rfl
    | cons l ls =>
      have e1 : cuP (w.take k) (.tup ((l :: ls).map D.str)) = !ltL (w.take k) l := rfl
      have e2 : pc (w.take k) (l :: ls) = !ltL (w.take k) l := rfl
      rw [e2]
      simp only [List.filter_cons, e1, List.filter_nil]
      cases ltL (w.take k) l <;> rfl
  · have hx : x = .tup (ls.map D.str) := by simpa using hx
    subst hx
    rw [if_neg (by decide)]
    have e : runE G (.or (.cmv .eq 3 (.tup .nil)) (.cmp .le (.idv 3 (.cst (.int 0))) (.sli (.var 0) .nop (.var 2)))) [.val (.str w), .val F, .val (.int (k : Int)), .val (.tup (ls.map D.str))] = .ok (.val (.bl (cuP (w.take k) (.tup (ls.map D.str)))), [.val (.str w), .val F, .val (.int (k : Int)), .val (.tup (ls.map D.str))]) := by
      refine ev_or (x := .val (.bl ls.isEmpty)) (t := ls.isEmpty) (ev_cmv (d1 := .tup (ls.map D.str)) (d := .tup (ls.map D.str)) (x := .val (.tup [])) rfl (ev_tup es_nil (by simp) rfl) rfl (tup_eq_nil hsm)) rfl ?_
      cases ls with
      | nil => exact m_t rfl rfl
      | cons l ls =>
        refine m_f rfl ?_
        exact ev_cmp (x := .val (.str l)) (y := .val (.str (w.take k))) (ev_idv (d1 := .tup ((l :: ls).map D.str)) (d2 := .tup ((l :: ls).map D.str)) (y := .val (.int 0)) rfl ev_cst rfl idx0) (sli_to rfl hw rfl (ev_var rfl)) rfl
    show (runE G _ [.val (.str w), .val F, .val (.int (k : Int)), .val (.tup (ls.map D.str))]).bind _ = _
    rw [e]; rfl
  · have hx : x = .tup (ls.map D.str) := by simpa using hx
    subst hx
    refine ⟨.val (.tup (.str (w.take k) :: ls.map D.str)), rfl, ?_⟩
    refine ev_bin (x := .val (.tup [.str (w.take k)])) (y := .val (.tup (ls.map D.str))) (ρ1 := [.val (.str w), .val F, .val (.int (k : Int)), .val (.tup (ls.map D.str))]) (ev_tup (rs := [.val (.str (w.take k))]) (es_cons (sli_to rfl hw rfl (ev_var rfl)) es_nil) (by simp) rfl) (ev_var rfl) ?_
    have hz : lineOk ([D.str (w.take k)].length + (ls.map D.str).length) = true := by
      unfold lineOk
      exact decide_eq_true (by simp; omega)
    simp only [dBin, Rv.d, hz, if_true]
    rfl
theorem fac_len {w : List Nat} {ls : List (List Nat)} (h : ∀ l ∈ ls, Lyn.Lyn l) (e : ls.flatten = w) : ls.length ≤ w.length := by
  subst e
  induction ls with
  | nil => simp
  | cons l ls ih =>
    rw [List.flatten_cons, List.length_append, List.length_cons]
    have := ih fun x hx => h x (List.mem_cons_of_mem _ hx)
    have := List.length_pos_iff.mpr (h l List.mem_cons_self).1
    omega
theorem contrib_len (w : List Nat) (k : Nat) : (contrib w k).length ≤ 1 := by
  unfold contrib
  split <;> simp
theorem cuD_app {s c : List (List (List Nat))} (h : s.length + c.length ≤ 16777216) : dBin .add (cuD s) (cuD c) = some (.own (cuD (s ++ c))) := by
  have hz : lineOk ((s.map fun ls : List (List Nat) => D.tup (ls.map D.str)).length + (c.map fun ls : List (List Nat) => D.tup (ls.map D.str)).length) = true := by
    unfold lineOk
    exact decide_eq_true (by simp; omega)
  unfold cuD
  simp only [dBin, hz, if_true, List.map_append]
def W6 (n : Nat) : Prop := ∀ w : List Nat, w.length ≤ n → w.length ≤ 1000 → Sm w → ∃ r ps, r.d = .lst [.tup ((cfl w).map D.str)] ∧ Phi dfs cst (n + 2) 6 [.val (.str w)] = .ok (r, ps)
theorem cu_step {n : Nat} (ih : W6 n) {W : List Nat} (h0 : W.length ≤ n + 1) (h1 : W.length ≤ 1000) (h2 : Sm W) {k : Nat} (k0 : 0 < k) {s : List (List (List Nat))} (hs : s.length ≤ 100000) :
    runSs ⟨Phi dfs cst (n + 2), cst⟩ cuB [.val (.str W), .own (cuD s), .val (.int (k : Int)), .no] = .ok (.nx [.val (.str W), .own (cuD (s ++ contrib W k)), .val (.int (k : Int)), .no]) := by
  obtain ⟨ps, e5⟩ := fn5 (n + 1) (W.take k) (by rw [List.length_take]; omega)
  refine ss_cons (f1 := .nx [.val (.str W), .own (cuD (s ++ contrib W k)), .val (.int (k : Int)), .no]) (rs_ife (x := .val (.bl (fst (W.take k)))) (t := fst (W.take k)) (ev_cal (rs := [.val (.str (W.take k))]) (es_cons (sli_to rfl h1 rfl (ev_var rfl)) es_nil) e5) rfl ?_) (seq_nx ss_nil)
  cases hf : fst (W.take k) with
  | false =>
    have : contrib W k = [] := by unfold contrib; rw [hf]; rfl
    rw [this, List.append_nil]
    exact m_f rfl ss_nil
  | true =>
    have sd : Sm (W.drop k) := fun c hc => h2 c (List.mem_of_mem_drop hc)
    have hdl : (W.drop k).length ≤ 1000 := by rw [List.length_drop]; omega
    obtain ⟨r, ps2, hr, e6⟩ := ih (W.drop k) (by rw [List.length_drop]; omega) hdl sd
    have Fd := cfl_ok hdl
    have hll := fac_len Fd.lyn Fd.flat
    have q := cu_lc (G := ⟨Phi dfs cst (n + 2), cst⟩) (w := W) (v := W) (F := cuD s) (k := k) (ls := cfl (W.drop k)) h1 (by omega) (sd.parts Fd.flat) hr e6
    have hc : contrib W k = if pc (W.take k) (cfl (W.drop k)) then [W.take k :: cfl (W.drop k)] else [] := by unfold contrib; rw [hf, Bool.true_and]
    rw [← hc] at q
    refine m_t rfl (ss_cons (rs_asg (x := .own (cuD (s ++ contrib W k))) (ρ1 := [.val (.str W), .val (cuD s), .val (.int (k : Int)), .no]) (ev_bin (x := .val (cuD s)) (y := .own (cuD (contrib W k))) (ρ1 := [.val (.str W), .val (cuD s), .val (.int (k : Int)), .no]) (ev_own rfl rfl) q (cuD_app ?_)) rfl) (seq_nx ss_nil))
    have := contrib_len W k
    omega
theorem cu_loop {n : Nat} (ih : W6 n) {W : List Nat} (h0 : W.length ≤ n + 1) (h1 : W.length ≤ 1000) (h2 : Sm W) : ∀ (ks : List Nat) (s : List (List (List Nat))) (sl : Sl), s.length + ks.length ≤ 100000 →
    ∃ sl', loopF (fun x ρ => (Res.of (setT (.nm 2) x ρ)).bind fun ρ1 => runSs ⟨Phi dfs cst (n + 2), cst⟩ cuB ρ1) (ks.map fun k => D.int ((k + 1 : Nat) : Int)) [.val (.str W), .own (cuD s), sl, .no] = .ok (.nx [.val (.str W), .own (cuD (s ++ ks.flatMap fun k => contrib W (k + 1))), sl', .no])
  | [], s, sl, _ => ⟨sl, by simp only [List.map_nil, loopF, List.flatMap_nil, List.append_nil]⟩
  | k :: ks, s, sl, hl => by
    have q := cu_step ih h0 h1 h2 (k := k + 1) (by omega) (s := s) (by simp at hl; omega)
    obtain ⟨sl', q2⟩ := cu_loop ih h0 h1 h2 ks (s ++ contrib W (k + 1)) (.val (.int ((k + 1 : Nat) : Int))) (by
      have := contrib_len W (k + 1)
      simp at hl ⊢; omega)
    refine ⟨sl', ?_⟩
    have e : (Res.of (setT (.nm 2) (D.int ((k + 1 : Nat) : Int)) [.val (.str W), .own (cuD s), sl, .no])).bind (fun ρ1 => runSs ⟨Phi dfs cst (n + 2), cst⟩ cuB ρ1) = .ok (.nx [.val (.str W), .own (cuD (s ++ contrib W (k + 1))), .val (.int ((k + 1 : Nat) : Int)), .no]) := body_set (ρ1 := [.val (.str W), .own (cuD s), .val (.int ((k + 1 : Nat) : Int)), .no]) rfl q
    simp only [List.map_cons, loopF, e, Res.ok_bind, List.flatMap_cons]
    rw [q2, List.append_assoc]
theorem fn6 : ∀ n : Nat, W6 n := by
  intro n
  induction n with
  | zero =>
    intro w h0 h1 h2
    have : w = [] := List.eq_nil_of_length_eq_zero (by omega)
    subst this
    have e : cfl [] = [] := cfl_is ⟨rfl, (fun l hl => by cases hl), trivial⟩
    rw [e]
    exact ⟨.own (.lst [.tup []]), _, rfl, rfl⟩
  | succ n ih =>
    intro w h0 h1 h2
    cases w with
    | nil =>
      have e : cfl [] = [] := cfl_is ⟨rfl, (fun l hl => by cases hl), trivial⟩
      rw [e]
      exact ⟨.own (.lst [.tup []]), _, rfl, rfl⟩
    | cons x w =>
      generalize hW : x :: w = W at h0 h1 h2
      have hne : W ≠ [] := by rw [← hW]; simp
      refine ⟨.val (.lst [.tup ((cfl W).map D.str)]), ?_⟩
      obtain ⟨sl', loop⟩ := cu_loop ih h0 h1 h2 (List.range W.length) [] .no (by simp; omega)
      rw [List.nil_append, cuts_one h1 hne] at loop
      have h : ∃ ps, runF ⟨Phi dfs cst (n + 2), cst⟩ 4 1 ir__law_cuts [.val (.str W)] = .ok (.val (.lst [.tup ((cfl W).map D.str)]), ps) := by
        refine run_ret0 rfl ⟨[.val (.str W), .val (.lst [.tup ((cfl W).map D.str)]), sl', .no], ?_, by simp⟩
        show runSs ⟨Phi dfs cst (n + 2), cst⟩ ir__law_cuts [.val (.str W), .no, .no, .no] = _
        rw [cu_is]
        refine ss_cons (f1 := .nx [.val (.str W), .no, .no, .no]) (rs_ife (x := .val (.bl false)) (t := false) (ev_cmv (d1 := .str W) (d := .str W) (x := .val (.str [])) rfl ev_cst rfl (by rw [← hW]; rfl)) rfl (m_f rfl ss_nil)) (seq_nx ?_)
        refine ss_cons (f1 := .nx [.val (.str W), .own (.lst []), .no, .no]) (rs_asg (x := .own (.lst [])) (ev_lst es_nil (by simp) rfl) rfl) (seq_nx ?_)
        have hrng : dRange [.int 1, .int ((W.length : Int) + 1)] = some ((List.range W.length).map fun k => D.int ((k + 1 : Nat) : Int)) := by
          have q := dRange1 (n := W.length + 1) (by omega)
          rw [show W.length + 1 - 1 = W.length by omega] at q
          exact q
        refine ss_cons (rs_for (ds := (List.range W.length).map fun k => D.int ((k + 1 : Nat) : Int)) (ρ1 := [.val (.str W), .own (.lst []), .no, .no]) (ri_rng (rs := [.val (.int 1), .val (.int ((W.length : Int) + 1))]) (es_cons ev_cst (es_cons (ev_bin (x := .val (.int (W.length : Int))) (y := .val (.int 1)) (ev_lenv rfl (dBi_len_str (by omega))) ev_cst rfl) es_nil)) hrng) loop) (seq_nx ?_)
        exact ss_cons (rs_ret (ev_own rfl rfl)) seq_rt
      obtain ⟨ps, h⟩ := h
      exact ⟨ps, rfl, h⟩
end GwK

set_option Elab.async false
set_option linter.all false
set_option maxRecDepth 100000
set_option maxHeartbeats 1000000
namespace GwK
open PySem L2 Gw
abbrev GL : Glo := ⟨Phi dfs cst 10, cst⟩
abbrev GM : Glo := ⟨Phi dfs cst 9, cst⟩
theorem f3 : GL.fn 3 = runF GM 3 2 rollB := rfl
theorem f4 : GL.fn 4 = runF GM 4 3 (wordB 3) := rfl
theorem m3 : GM.fn 3 = runF ⟨Phi dfs cst 8, cst⟩ 3 2 rollB := rfl
theorem dice_ok : ∀ c, Phi dfs cst 9 2 [.val (.int c)] = .ok (.own (diceD c), [.val (.int c)]) := fun c => run_dice ⟨Phi dfs cst 8, cst⟩ c
def Sv (s : Sl) : Prop := s = .no ∨ ∃ d, s = .val d
section
variable {G : Glo} {ρ ρ1 : Gw.Env} {c elt : Gw.E} {it : Gw.I}
/-- over one name, whatever it held -/
theorem ev_lcv {v : Nat} {ds : List D} (p : D → Bool) (f : D → D) (h1 : runI G it ρ = .ok (ds, ρ1, none)) (h2 : Sv (ρ1.at (v + 1))) (hv : v + 1 < ρ1.length) (hl : ds.length ≤ 16777216)
    (hp : ∀ x ∈ ds, (if c.isNop then (.ok (true, ρ1.set (v + 1) (.val x)) : Res (Bool × Gw.Env)) else (runE G c (ρ1.set (v + 1) (.val x))).bind fun p => truR p.1 p.2) = .ok (p x, ρ1.set (v + 1) (.val x)))
    (hf : ∀ x ∈ ds, p x = true → ∃ r : Rv, r.d = f x ∧ runE G elt (ρ1.set (v + 1) (.val x)) = .ok (r, ρ1.set (v + 1) (.val x))) : runE G (.lc elt (.nm (v + 1)) it c) ρ = .ok (.own (.lst ((ds.filter p).map f)), ρ1.set (v + 1) .no) := by
  have hww : ∀ x, wipe (ρ1.set (v + 1) (.val x)) [v + 1] = ρ1.set (v + 1) .no := fun x => by
    show (ρ1.set (v + 1) (.val x)).set (v + 1) .no = _
    rw [List.set_set]
  refine ev_lc h1 ?_ ?_
  · rcases h2 with h2 | ⟨d, h2⟩
    · simp only [T.slots, wipable, List.all_cons, List.all_nil, Bool.and_true, h2, decide_eq_true hv]
    · simp only [T.slots, wipable, List.all_cons, List.all_nil, Bool.and_true, h2, decide_eq_true hv]
  · simp only [T.slots]
    show loopC _ ds [] (ρ1.set (v + 1) .no) = _
    have e : (ds.filter p).map f = ds.flatMap fun x => if p x then [f x] else [] := by
      clear hp hf hl h1
      induction ds with
      | nil => rfl
      | cons x ds ih =>
        rw [List.flatMap_cons, ← ih]
        cases hp : p x <;> simp [List.filter_cons, hp]
    rw [e, ← List.nil_append (ds.flatMap _)]
    refine loopC_pure _ ds [] (fun x hx => ?_) ?_
    · have hs : setT (.nm (v + 1)) x (ρ1.set (v + 1) .no) = some (ρ1.set (v + 1) (.val x)) := by
        simp only [setT, Env.put, List.set_set]
      refine turnC_ok hs (hp x hx) ?_
      cases hpx : p x with
      | false => simp only [hww, Bool.false_eq_true, if_false, sel]
      | true =>
        obtain ⟨r, hr, hrun⟩ := hf x hx hpx
        simp only [hrun, Res.ok_bind, hww, hr, if_true, sel]
    · rw [← e, List.length_map]
      have := List.length_filter_le p ds
      simp; omega
end
theorem str_ne (w : List Nat) : dCmp .ne (.str w) (.str w) = some false := by simp [dCmp, dEqO, D.scal, D.flat, D.eqb]
theorem bl_ne (b : Bool) : dCmp .ne (.bl b) (.bl b) = some false := by cases b <;> rfl
theorem strs_eq_nil {L : List (List Nat)} (h : ∀ l ∈ L, Sm l) : dCmp .eq (.lst (L.map D.str)) (.lst []) = some L.isEmpty := by
  simp only [dCmp, dEqO, D.scal, D.flat, D.shaped, D.plain, D.depth, plains_str h, depths_str, D.plains, D.depths]
  cases L <;> rfl
theorem dStrs_map : ∀ ls : List (List Nat), dStrs (ls.map D.str) = some ls
  | [] => rfl
  | l :: ls => by rw [List.map_cons]; simp only [dStrs, dStrs_map ls, Option.map_some]
theorem sumLen_flat : ∀ ls : List (List Nat), sumLen ls = ls.flatten.length
  | [] => rfl
  | l :: ls => by rw [List.flatten_cons, List.length_append]; simp only [sumLen, sumLen_flat ls]
theorem join_tup {ls : List (List Nat)} {w : List Nat} (e : ls.flatten = w) (hw : w.length ≤ 1000) : joinD (.str []) (.tup (ls.map D.str)) = some (.str w) := by
  have hz : lineOk (sumLen ls) = true := by
    unfold lineOk
    exact decide_eq_true (by rw [sumLen_flat, e]; omega)
  simp only [joinD, dStrs_map, hz, if_true, e]
theorem non_at : ∀ {ls : List (List Nat)}, Lyn.Noninc ls → ∀ k, k + 1 < ls.length → ltL (ls.getD k []) (ls.getD (k + 1) []) = false
  | [], _, k, h => by simp at h
  | [_], _, k, h => by simp at h
  | l :: m :: r, h, 0, _ => h.1 m (by simp)
  | l :: m :: r, h, k + 1, hk => by
    have := non_at (ls := m :: r) h.2 k (by simpa using hk)
    simpa using this
theorem idxT {ls : List (List Nat)} {k : Nat} (h : k < ls.length) : dIdx (.tup (ls.map D.str)) (.int (k : Int)) = some (.str (ls.getD k [])) := by
  simp only [dIdx, Gw.atI, Gw.ixN, List.length_map]
  rw [if_pos (by omega), if_pos (by omega)]
  simp only [Option.bind_some, Int.toNat_natCast, List.getElem?_map, List.getElem?_eq_getElem h, Option.map_some, List.getD_eq_getElem?_getD, Option.getD_some]
theorem ranged0 (n : Nat) : ranged 0 1 n = (List.range n).map fun k => D.int ((k : Nat) : Int) := by
  unfold ranged
  apply List.map_congr_left
  intro k _
  congr 1
  omega
def rotW (w : List Nat) (j : Nat) : List Nat := w.drop (j + 1) ++ w.take (j + 1)
def rotF (w : List Nat) : D → D
  | .int i => .str (w.drop i.toNat ++ w.take i.toNat)
  | d => d
theorem fst_rot {w : List Nat} (h : w ≠ []) : ((List.range (w.length - 1)).filter fun j => !ltL w (rotW w j)).isEmpty = fst w := by
  rw [Bool.eq_iff_iff, List.isEmpty_iff, List.filter_eq_nil_iff, fst_iff]
  constructor
  · intro q
    refine ⟨h, Lyn.of_rot fun k k0 k1 => ?_⟩
    have := q (k - 1) (List.mem_range.mpr (by omega))
    unfold rotW at this
    rw [show k - 1 + 1 = k by omega] at this
    simpa using this
  · intro q j hj
    have hj := List.mem_range.mp hj
    have := Lyn.rot_of (w := w) (k := j + 1) (by omega) (by omega) (q.2 (j + 1) (by omega) (by omega))
    unfold rotW
    rw [this]; decide
def lB5 : Ss := (.cons (.asg 4 (.sli (.var 2) (.var 5) .nop)) (.cons (.ife (.cmp .ne (.cal 0 (.cons (.var 4) .nil)) (.cal 5 (.cons (.var 4) .nil))) (.cons (.ret (.cst (.bl false))) .nil) .nil) (.cons (.asg 6 (.lc (.bin .add (.sli (.var 4) (.var 7) .nop) (.sli (.var 4) .nop (.var 7))) (.nm 7) (.rng (.cons (.cst (.int 1)) (.cons (.lenv 4) .nil))) .nop)) (.cons (.ife (.cmp .ne (.cal 0 (.cons (.var 4) .nil)) (.cmp .eq (.lc (.var 8) (.nm 8) (.frz (.var 6)) (.cmv .le 8 (.var 4))) (.lst .nil))) (.cons (.ret (.cst (.bl false))) .nil) .nil) .nil))))
def en9 (ns : List Int) (d : D) (w : List Nat) (t : D) (s4 s5 s6 : Sl) : Gw.Env := [.val (.scr ns), .own d, .val (.str w), .val t, s4, s5, s6, .no, .no]
theorem turn5 (ns : List Int) (d : D) {w : List Nat} (t : D) (hw : w.length ≤ 1000) (hsm : Sm w) {k : Nat} (hk : k < w.length) (s4 s6 : Sl) : ∃ t6, runSs GL lB5 (en9 ns d w t s4 (.val (.int (k : Int))) s6) = .ok (.nx (en9 ns d w t (.val (.str (w.drop k))) (.val (.int (k : Int))) t6)) := by
  generalize hu : w.drop k = u
  have hul : u.length ≤ 1000 := by rw [← hu, List.length_drop]; omega
  have hun : u ≠ [] := by
    intro e
    rw [e] at hu
    have : (w.drop k).length = 0 := by rw [hu]; rfl
    rw [List.length_drop] at this; omega
  have hus : Sm u := fun c hc => hsm c (by rw [← hu] at hc; exact List.mem_of_mem_drop hc)
  obtain ⟨p0, e0⟩ := fn0 9 u hul
  obtain ⟨p5, e5⟩ := fn5 9 u hul
  let L : List (List Nat) := (List.range (u.length - 1)).map (rotW u)
  have lL : L.length ≤ 1000 := by simp [L]; omega
  have hLs : ∀ l ∈ L, Sm l := fun l hl => by
    obtain ⟨j, _, rfl⟩ := List.mem_map.mp hl
    intro c hc
    unfold rotW at hc
    rcases List.mem_append.mp hc with z | z
    · exact hus c (List.mem_of_mem_drop z)
    · exact hus c (List.mem_of_mem_take z)
  have st1 : runS GL (.asg 4 (.sli (.var 2) (.var 5) .nop)) (en9 ns d w t s4 (.val (.int (k : Int))) s6) = .ok (.nx (en9 ns d w t (.val (.str u)) (.val (.int (k : Int))) s6)) := by
    rw [← hu]
    exact rs_asg (x := .val (.str (w.drop k))) (sli_from rfl hw rfl (ev_var rfl)) rfl
  have call0 : ∀ s, runE GL (.cal 0 (.cons (.var 4) .nil)) (en9 ns d w t (.val (.str u)) (.val (.int (k : Int))) s) = .ok (.val (.bl (fst u)), en9 ns d w t (.val (.str u)) (.val (.int (k : Int))) s) := fun s => ev_cal (rs := [.val (.str u)]) (es_cons (ev_var rfl) es_nil) e0
  have call5 : ∀ s, runE GL (.cal 5 (.cons (.var 4) .nil)) (en9 ns d w t (.val (.str u)) (.val (.int (k : Int))) s) = .ok (.val (.bl (fst u)), en9 ns d w t (.val (.str u)) (.val (.int (k : Int))) s) := fun s => ev_cal (rs := [.val (.str u)]) (es_cons (ev_var rfl) es_nil) e5
  have st3 : runE GL (.lc (.bin .add (.sli (.var 4) (.var 7) .nop) (.sli (.var 4) .nop (.var 7))) (.nm 7) (.rng (.cons (.cst (.int 1)) (.cons (.lenv 4) .nil))) .nop) (en9 ns d w t (.val (.str u)) (.val (.int (k : Int))) s6) = .ok (.own (.lst (L.map D.str)), en9 ns d w t (.val (.str u)) (.val (.int (k : Int))) s6) := by
    have q := ev_lc1 (G := GL) (elt := .bin .add (.sli (.var 4) (.var 7) .nop) (.sli (.var 4) .nop (.var 7))) (c := .nop) (v := 7) (it := .rng (.cons (.cst (.int 1)) (.cons (.lenv 4) .nil))) (ρ := en9 ns d w t (.val (.str u)) (.val (.int (k : Int))) s6) (ρ1 := en9 ns d w t (.val (.str u)) (.val (.int (k : Int))) s6) (ds := (List.range (u.length - 1)).map fun k => D.int ((k + 1 : Nat) : Int)) (fun _ => true) (rotF u)
      (ri_rng (rs := [.val (.int 1), .val (.int u.length)]) (es_cons ev_cst (es_cons (ev_lenv rfl (dBi_len_str (by omega))) es_nil)) (dRange1 (by omega))) rfl (by simp [en9]) (by simp; omega) (fun y hy => rfl) (fun y hy _ => ?_)
    · rw [q]
      congr 4
      rw [List.filter_eq_self.mpr fun _ _ => rfl, List.map_map, List.map_map]
      rfl
    · obtain ⟨j, hj, rfl⟩ := List.mem_map.mp hy
      refine ⟨.val (.str (u.drop (j + 1) ++ u.take (j + 1))), rfl, ?_⟩
      refine ev_bin (x := .val (.str (u.drop (j + 1)))) (y := .val (.str (u.take (j + 1)))) (sli_from (k := j + 1) rfl hul rfl (ev_var rfl)) (sli_to (k := j + 1) rfl hul rfl (ev_var rfl)) (dBin_add_str ?_)
      rw [List.length_drop, List.length_take]; omega
  have st4 : runE GL (.cmp .eq (.lc (.var 8) (.nm 8) (.frz (.var 6)) (.cmv .le 8 (.var 4))) (.lst .nil)) (en9 ns d w t (.val (.str u)) (.val (.int (k : Int))) (.own (.lst (L.map D.str)))) = .ok (.val (.bl (fst u)), en9 ns d w t (.val (.str u)) (.val (.int (k : Int))) (.val (.lst (L.map D.str)))) := by
    have q := ev_lc1 (G := GL) (elt := .var 8) (c := .cmv .le 8 (.var 4)) (v := 8) (it := .frz (.var 6)) (ρ := en9 ns d w t (.val (.str u)) (.val (.int (k : Int))) (.own (.lst (L.map D.str)))) (ρ1 := en9 ns d w t (.val (.str u)) (.val (.int (k : Int))) (.val (.lst (L.map D.str)))) (ds := L.map D.str) (fun x => match x with | .str l => !ltL u l | _ => false) (fun x => x)
      (ri_frz (x := .val (.lst (L.map D.str))) (ev_own rfl rfl) rfl) rfl (by simp [en9]) (by simp; omega) (fun y hy => ?_) (fun y hy _ => ?_)
    · refine ev_cmp (x := .own (.lst _)) (y := .own (.lst [])) (ρ1 := en9 ns d w t (.val (.str u)) (.val (.int (k : Int))) (.val (.lst (L.map D.str)))) q (ev_lst es_nil (by simp) rfl) ?_
      have e : ((L.map D.str).filter fun x => match x with | .str l => !ltL u l | _ => false) = (L.filter fun l => !ltL u l).map D.str := by
        rw [List.filter_map]; rfl
      show dCmp .eq (.lst (((L.map D.str).filter fun x => match x with | .str l => !ltL u l | _ => false).map fun x => x)) (.lst []) = _
      rw [List.map_id', e, strs_eq_nil fun l hl => hLs l (List.mem_filter.mp hl).1]
      congr 1
      rw [← fst_rot hun]
      show (((List.range (u.length - 1)).map (rotW u)).filter fun l => !ltL u l).isEmpty = _
      rw [List.filter_map, List.isEmpty_map]
      rfl
    · obtain ⟨l, hl, rfl⟩ := List.mem_map.mp hy
      rw [if_neg (by decide)]
      have e : runE GL (.cmv .le 8 (.var 4)) ((en9 ns d w t (.val (.str u)) (.val (.int (k : Int))) (.val (.lst (L.map D.str)))).set 8 (.val (.str l))) = .ok (.val (.bl (!ltL u l)), (en9 ns d w t (.val (.str u)) (.val (.int (k : Int))) (.val (.lst (L.map D.str)))).set 8 (.val (.str l))) := ev_cmv (d1 := .str l) (d := .str l) (x := .val (.str u)) rfl (ev_var rfl) rfl rfl
      rw [e]; rfl
    · obtain ⟨l, hl, rfl⟩ := List.mem_map.mp hy
      exact ⟨.val (.str l), rfl, ev_var rfl⟩
  refine ⟨.val (.lst (L.map D.str)), ?_⟩
  refine ss_cons st1 (seq_nx (ss_cons (f1 := .nx (en9 ns d w t (.val (.str u)) (.val (.int (k : Int))) s6)) (rs_ife (x := .val (.bl false)) (t := false) (ev_cmp (call0 s6) (call5 s6) (bl_ne _)) rfl (m_f rfl ss_nil)) (seq_nx ?_)))
  refine ss_cons (f1 := .nx (en9 ns d w t (.val (.str u)) (.val (.int (k : Int))) (.own (.lst (L.map D.str))))) (rs_asg st3 rfl) (seq_nx ?_)
  exact ss_cons (f1 := .nx (en9 ns d w t (.val (.str u)) (.val (.int (k : Int))) (.val (.lst (L.map D.str))))) (rs_ife (x := .val (.bl false)) (t := false) (ev_cmp (call0 _) st4 (bl_ne _)) rfl (m_f rfl ss_nil)) (seq_nx ss_nil)
theorem loop5 (ns : List Int) (d : D) {w : List Nat} (t : D) (hw : w.length ≤ 1000) (hsm : Sm w) : ∀ (ks : List Nat) (s4 s5 s6 : Sl), (∀ k ∈ ks, k < w.length) → Sv s4 → Sv s5 → ∃ t4 t5 t6, Sv t4 ∧ Sv t5 ∧ loopF (fun x ρ => (Res.of (setT (.nm 5) x ρ)).bind fun ρ1 => runSs GL lB5 ρ1) (ks.map fun k => D.int ((k : Nat) : Int)) (en9 ns d w t s4 s5 s6) = .ok (.nx (en9 ns d w t t4 t5 t6))
  | [], s4, s5, s6, _, h4, h5 => ⟨s4, s5, s6, h4, h5, rfl⟩
  | k :: ks, s4, s5, s6, hk, h4, h5 => by
    obtain ⟨t6, q⟩ := turn5 ns d t hw hsm (hk k List.mem_cons_self) s4 s6
    obtain ⟨a4, a5, a6, b4, b5, q2⟩ := loop5 ns d t hw hsm ks (.val (.str (w.drop k))) (.val (.int (k : Int))) t6 (fun x hx => hk x (List.mem_cons_of_mem _ hx)) (.inr ⟨_, rfl⟩) (.inr ⟨_, rfl⟩)
    refine ⟨a4, a5, a6, b4, b5, ?_⟩
    have e : (Res.of (setT (.nm 5) (D.int ((k : Nat) : Int)) (en9 ns d w t s4 s5 s6))).bind (fun ρ1 => runSs GL lB5 ρ1) = .ok (.nx (en9 ns d w t (.val (.str (w.drop k))) (.val (.int (k : Int))) t6)) := body_set (ρ1 := en9 ns d w t s4 (.val (.int (k : Int))) s6) rfl q
    simp only [List.map_cons, loopF, e, Res.ok_bind]
    exact q2
def Shape (ns : List Int) (ρ : Gw.Env) : Prop := ∃ s1 s2 s3 s4 s5 s6, Sv s4 ∧ Sv s5 ∧ ρ = [.val (.scr ns), s1, s2, s3, s4, s5, s6, .no, .no]
theorem body_ok (ns : List Int) (c : Int) (ρ : Gw.Env) (h : Shape ns ρ) : ∃ ρ', runSs GL ir_law (ρ.set 1 (.own (diceD c))) = .ok (.nx ρ') ∧ Shape ns ρ' := by
  obtain ⟨s1, s2, s3, s4, s5, s6, h4, h5, rfl⟩ := h
  obtain ⟨r1, d1, hd1, p0, p1, e1⟩ := run_roll GM (dice_is c) (m := 3) (by omega) (by omega)
  obtain ⟨ltrs, hltr, hlt1, hlt2, hlt3⟩ : ∃ ltrs : List Nat, dIdx (.lst [.str [97, 98], .str [97, 98, 99], .str [97]]) (.int r1) = some (.str ltrs) ∧ 0 < ltrs.length ∧ ltrs.length < 1000 ∧ ∀ x ∈ ltrs, x < 1114112 := by
    have : r1 = 0 ∨ r1 = 1 ∨ r1 = 2 := by omega
    rcases this with rfl | rfl | rfl
    · exact ⟨[97, 98], rfl, by decide, by decide, by decide⟩
    · exact ⟨[97, 98, 99], rfl, by decide, by decide, by decide⟩
    · exact ⟨[97], rfl, by decide, by decide, by decide⟩
  obtain ⟨w, d2, hd2, hw1, hw2, e2⟩ := run_word m3 hd1 (m := 12) (ls := ltrs) (by omega) (by omega) hlt1 hlt2
  have hw : w.length ≤ 12 := by omega
  have hsm : Sm w := fun x hx => hlt3 x (hw2 x hx)
  obtain ⟨ls, ps1, F, ee1⟩ := fn1 9 w (by omega)
  have hll := fac_len F.lyn F.flat
  have sl := hsm.parts F.flat
  -- word, told
  have st0 : runS GL (.asg 2 (.car 4 1 (.cons (.cst (.int 12)) (.cons (.idx (.lst (.cons (.cst (.str [97, 98])) (.cons (.cst (.str [97, 98, 99])) (.cons (.cst (.str [97])) .nil)))) (.car 3 1 (.cons (.cst (.int 3)) .nil))) .nil)))) [.val (.scr ns), .own (diceD c), s2, s3, s4, s5, s6, .no, .no] = .ok (.nx [.val (.scr ns), .own d2, .val (.str w), s3, s4, s5, s6, .no, .no]) := by
    refine rs_asg (x := .val (.str w)) (ρ1 := [.val (.scr ns), .own d2, s2, s3, s4, s5, s6, .no, .no]) ?_ rfl
    refine ev_carO (d := diceD c) (d1 := d1) (d2 := d2) (r := .val (.str w)) (rs := [.val (.int 12), .val (.str ltrs)]) (ps := [.val (.int 12), .val (.str ltrs)]) (ρ1 := [.val (.scr ns), .own d1, s2, s3, s4, s5, s6, .no, .no]) rfl ?_ rfl e2 rfl
    refine es_cons ev_cst (es_cons (ev_idx (x := .own (.lst [.str [97, 98], .str [97, 98, 99], .str [97]])) (y := .val (.int r1)) (ρ1 := [.val (.scr ns), .own (diceD c), s2, s3, s4, s5, s6, .no, .no]) (ev_lst (rs := [.val (.str [97, 98]), .val (.str [97, 98, 99]), .val (.str [97])]) (es_cons ev_cst (es_cons ev_cst (es_cons ev_cst es_nil))) (by simp) rfl) ?_ hltr) es_nil)
    exact ev_carO (d := diceD c) (d1 := diceD c) (d2 := d1) (r := .val (.int r1)) (rs := [.val (.int 3)]) (ps := [.val (.int 3)]) (ρ1 := [.val (.scr ns), .own (diceD c), s2, s3, s4, s5, s6, .no, .no]) rfl (es_cons ev_cst es_nil) rfl e1 rfl
  let T : D := .tup (ls.map D.str)
  have st1 : runS GL (.asg 3 (.cal 1 (.cons (.var 2) .nil))) [.val (.scr ns), .own d2, .val (.str w), s3, s4, s5, s6, .no, .no] = .ok (.nx (en9 ns d2 w T s4 s5 s6)) := rs_asg (x := .val T) (ρ1 := [.val (.scr ns), .own d2, .val (.str w), s3, s4, s5, s6, .no, .no]) (ev_cal (rs := [.val (.str w)]) (es_cons (ev_var rfl) es_nil) ee1) rfl
  have st2 : runS GL (.ife (.or (.cmp .ne (.joi (.cst (.str [])) (.var 3)) (.var 2)) (.cmp .ne (.lc (.var 4) (.nm 4) (.frz (.var 3)) (.not (.cal 5 (.cons (.var 4) .nil)))) (.lst .nil))) (.cons (.ret (.cst (.bl false))) .nil) .nil) (en9 ns d2 w T s4 s5 s6) = .ok (.nx (en9 ns d2 w T .no s5 s6)) := by
    refine rs_ife (x := .val (.bl false)) (ρ1 := en9 ns d2 w T .no s5 s6) (t := false) (ev_or (x := .val (.bl false)) (ρ1 := en9 ns d2 w T s4 s5 s6) (t := false) (ev_cmp (x := .val (.str w)) (y := .val (.str w)) (ρ1 := en9 ns d2 w T s4 s5 s6) (ev_joi (x := .val (.str [])) (y := .val T) ev_cst (ev_var rfl) (join_tup F.flat (by omega))) (ev_var rfl) (str_ne w)) rfl (m_f rfl ?_)) rfl (m_f rfl ss_nil)
    have q := ev_lcv (G := GL) (elt := .var 4) (c := .not (.cal 5 (.cons (.var 4) .nil))) (v := 3) (it := .frz (.var 3)) (ρ := en9 ns d2 w T s4 s5 s6) (ρ1 := en9 ns d2 w T s4 s5 s6) (ds := ls.map D.str) (fun _ => false) (fun x => x) (ri_frz (x := .val T) (ev_var rfl) rfl) h4 (by simp [en9]) (by simp; omega) (fun y hy => ?_) (fun y hy z => by cases z)
    · rw [List.filter_eq_nil_iff.mpr (fun _ _ => by decide)] at q
      exact ev_cmp (x := .own (.lst [])) (y := .own (.lst [])) q (ev_lst es_nil (by simp) rfl) rfl
    · obtain ⟨l, hl, rfl⟩ := List.mem_map.mp hy
      rw [if_neg (by decide)]
      have hfl : fst l = true := (fst_iff l).mpr (F.lyn l hl)
      have hlw : l.length ≤ 1000 := by
        have : l.length ≤ ls.flatten.length := List.Sublist.length_le (List.sublist_flatten_of_mem hl)
        rw [F.flat] at this
        omega
      obtain ⟨p5, e5⟩ := fn5 9 l hlw
      have e : runE GL (.not (.cal 5 (.cons (.var 4) .nil))) ((en9 ns d2 w T s4 s5 s6).set 4 (.val (.str l))) = .ok (.val (.bl false), (en9 ns d2 w T s4 s5 s6).set 4 (.val (.str l))) := by
        have q5 := ev_not (G := GL) (a := .cal 5 (.cons (.var 4) .nil)) (ρ := (en9 ns d2 w T s4 s5 s6).set 4 (.val (.str l))) (x := .val (.bl (fst l))) (t := fst l) (ev_cal (rs := [.val (.str l)]) (es_cons (ev_var rfl) es_nil) e5) rfl
        rw [hfl] at q5
        exact q5
      rw [e]; rfl
  have st3 : runS GL (.ife (.cmp .ne (.lc (.var 5) (.nm 5) (.rng (.cons (.cst (.int 1)) (.cons (.lenv 3) .nil))) (.cmp .gt (.idv 3 (.var 5)) (.idv 3 (.bin .sub (.var 5) (.cst (.int 1)))))) (.lst .nil)) (.cons (.ret (.cst (.bl false))) .nil) .nil) (en9 ns d2 w T .no s5 s6) = .ok (.nx (en9 ns d2 w T .no .no s6)) := by
    have q := ev_lcv (G := GL) (elt := .var 5) (c := .cmp .gt (.idv 3 (.var 5)) (.idv 3 (.bin .sub (.var 5) (.cst (.int 1))))) (v := 4) (it := .rng (.cons (.cst (.int 1)) (.cons (.lenv 3) .nil))) (ρ := en9 ns d2 w T .no s5 s6) (ρ1 := en9 ns d2 w T .no s5 s6) (ds := (List.range (ls.length - 1)).map fun k => D.int ((k + 1 : Nat) : Int)) (fun _ => false) (fun x => x)
      (ri_rng (rs := [.val (.int 1), .val (.int ((ls.map D.str).length : Int))]) (es_cons ev_cst (es_cons (ev_lenv (d := T) rfl rfl) es_nil)) (by
        rw [List.length_map]
        exact dRange1 (by omega))) h5 (by simp [en9]) (by simp; omega) (fun y hy => ?_) (fun y hy z => by cases z)
    · rw [List.filter_eq_nil_iff.mpr (fun _ _ => by decide)] at q
      exact rs_ife (x := .val (.bl false)) (ρ1 := en9 ns d2 w T .no .no s6) (t := false) (ev_cmp (x := .own (.lst [])) (y := .own (.lst [])) q (ev_lst es_nil (by simp) rfl) rfl) rfl (m_f rfl ss_nil)
    · obtain ⟨k, hk, rfl⟩ := List.mem_map.mp hy
      have hk := List.mem_range.mp hk
      rw [if_neg (by decide)]
      have e : runE GL (.cmp .gt (.idv 3 (.var 5)) (.idv 3 (.bin .sub (.var 5) (.cst (.int 1))))) ((en9 ns d2 w T .no s5 s6).set 5 (.val (.int ((k + 1 : Nat) : Int)))) = .ok (.val (.bl false), (en9 ns d2 w T .no s5 s6).set 5 (.val (.int ((k + 1 : Nat) : Int)))) := by
        refine ev_cmp (x := .val (.str (ls.getD (k + 1) []))) (y := .val (.str (ls.getD k []))) (ev_idv (d1 := T) (d2 := T) (y := .val (.int ((k + 1 : Nat) : Int))) rfl (ev_var rfl) rfl (idxT (by omega))) (ev_idv (d1 := T) (d2 := T) (y := .val (.int (((k + 1 : Nat) : Int) - 1))) rfl (ev_bin (x := .val (.int ((k + 1 : Nat) : Int))) (y := .val (.int 1)) (ev_var rfl) ev_cst rfl) rfl ?_) ?_
        · show dIdx T (.int (((k + 1 : Nat) : Int) - 1)) = _
          rw [show ((k + 1 : Nat) : Int) - 1 = (k : Int) by omega]
          exact idxT (by omega)
        · show some (ltL (ls.getD k []) (ls.getD (k + 1) [])) = _
          rw [non_at F.dec k (by omega)]
      rw [e]; rfl
  have st4 : runS GL (.ife (.cmp .ne (.cal 6 (.cons (.sli (.var 2) .nop (.cst (.int 8))) .nil)) (.lst (.cons (.cal 1 (.cons (.sli (.var 2) .nop (.cst (.int 8))) .nil)) .nil))) (.cons (.ret (.cst (.bl false))) .nil) .nil) (en9 ns d2 w T .no .no s6) = .ok (.nx (en9 ns d2 w T .no .no s6)) := by
    have s8 : Sm (w.take 8) := fun x hx => hsm x (List.mem_of_mem_take hx)
    have l8 : (w.take 8).length ≤ 8 := by rw [List.length_take]; omega
    obtain ⟨r, ps6, hr, e6⟩ := fn6 8 (w.take 8) l8 (by omega) s8
    obtain ⟨ls8, ps8, F8, e8⟩ := fn1 9 (w.take 8) (by omega)
    rw [cfl_is F8] at hr
    have sl8 : ∀ {G : Glo}, runE G (.sli (.var 2) .nop (.cst (.int 8))) (en9 ns d2 w T .no .no s6) = .ok (.val (.str (w.take 8)), en9 ns d2 w T .no .no s6) := fun {G} => sli_to (k := 8) rfl (by omega) rfl ev_cst
    refine rs_ife (x := .val (.bl false)) (t := false) (ev_cmp (x := r) (y := .own (.lst [.tup (ls8.map D.str)])) (ev_cal (rs := [.val (.str (w.take 8))]) (es_cons sl8 es_nil) e6) (ev_lst (rs := [.val (.tup (ls8.map D.str))]) (es_cons (ev_cal (rs := [.val (.str (w.take 8))]) (es_cons sl8 es_nil) e8) es_nil) (by simp) rfl) ?_) rfl (m_f rfl ss_nil)
    rw [hr]
    exact cut_ne (s8.parts F8.flat)
  obtain ⟨t4, t5, t6, v4, v5, q5⟩ := loop5 ns d2 T (by omega) hsm (List.range w.length) .no .no s6 (fun k hk => List.mem_range.mp hk) (.inl rfl) (.inl rfl)
  have st5 : runS GL (.fors (.nm 5) (.rng (.cons (.lenv 2) .nil)) lB5) (en9 ns d2 w T .no .no s6) = .ok (.nx (en9 ns d2 w T t4 t5 t6)) := by
    refine rs_for (ds := (List.range w.length).map fun k => D.int ((k : Nat) : Int)) (ρ1 := en9 ns d2 w T .no .no s6) (ri_rng (rs := [.val (.int (w.length : Int))]) (es_cons (ev_lenv rfl (dBi_len_str (by omega))) es_nil) ?_) q5
    have h2 : inR (w.length : Int) = true := by
      unfold inR
      rw [Bool.and_eq_true]
      exact ⟨decide_eq_true (by omega), decide_eq_true (by omega)⟩
    show dRange [.int (w.length : Int)] = _
    simp only [dRange, h2, if_true, Int.toNat_natCast, ranged0]
  exact ⟨en9 ns d2 w T t4 t5 t6, ss_cons st0 (seq_nx (ss_cons st1 (seq_nx (ss_cons st2 (seq_nx (ss_cons st3 (seq_nx (ss_cons st4 (seq_nx (ss_cons st5 (seq_nx ss_nil))))))))))), _, _, _, t4, t5, t6, v4, v5, rfl⟩
theorem law_runs : ∀ ns : List Int, ns.length ≤ 63 → LawRuns ⟨Phi dfs cst 10, cst⟩ (7 + 2) lawN ir_law ir_lawE ns := by
  intro ns _
  obtain ⟨ρ', h1, _⟩ := loopL_inv (Shape ns) (body_ok ns) (cellsOf ns lawN) (.val (.scr ns) :: List.replicate 8 .no) ⟨.no, .no, .no, .no, .no, .no, .inl rfl, .inl rfl, rfl⟩
  obtain ⟨p0, e0⟩ := fn0 9 [] (by simp)
  exact ⟨ρ', ρ', h1, ev_not (x := .val (.bl false)) (t := false) (ev_cal (rs := [.val (.str [])]) (es_cons ev_cst es_nil) e0) rfl⟩
end GwK

set_option Elab.async false
set_option linter.all false
set_option maxRecDepth 100000
set_option maxHeartbeats 4000000
namespace GwK
open PySem L2 Gw
def sts : Nat → Stmt
  | 0 => topS 1
  | 1 => topS 2
  | 2 => topS 4
  | 3 => topS 5
  | 4 => topS 7
  | 5 => topS 8
  | 6 => topS 9
  | _ => topS 9
set_option maxHeartbeats 0 in
theorem facts {w : World} {q : Program} {K : PySem.W.Frag} {h : Heap} {mg : Str → Option Value} {fa f1 f2 f3 f4 f5 f6 f7 f8 f9 : Addr} (X : K.In h) (G : h.Ns mainGlobals mg) (hfa : mg "law" = some (.ref fa)) (tin : TabsIn q K mg h)
    {od1 an1 : Option Addr} {sl1 : Array (Option Value)} {oc1 kV1 dc1 pm1 ct1 : Value} {cc1 : Addr}
    (a1 : PySem.W.nsIn K mainGlobals "is_first_turn" = some (some (.ref f1))) (l1 : K.lookup f1 = some ⟨oc1, od1, .func (PySem.W.fnOf "is_first_turn" "is_first_turn" (defArgs (topS 1)) (defBody (topS 1)) (defScope (topS 1)) .none kV1 dc1 pm1 an1 (.ref cc1) ct1), sl1⟩) (c1 : PySem.W.codeIn K (.ref cc1) "is_first_turn" = true) (k1 : PySem.W.keepIn K (.ref f1) = true)
    {P1 : Addr} {e1 : Value} {dd1 : Option Addr} {vs1 : Array Value} {sc1 : Array (Option Value)} (lc1 : K.lookup cc1 = some ⟨e1, dd1, .fields vs1, sc1⟩) (vv1 : vs1[11]? = some (.ref P1)) (nP1 : K.lookup P1 = none) (rq1 : ((PyProof.Rows.recsOf q).any fun e => e.name == ("is_first_turn" : Str)) = true)
    {od2 an2 : Option Addr} {sl2 : Array (Option Value)} {oc2 kV2 dc2 pm2 ct2 : Value} {cd2 : Value}
    (a2 : PySem.W.nsIn K mainGlobals "first_turns_of" = some (some (.ref f2))) (l2 : K.lookup f2 = some ⟨oc2, od2, .func (PySem.W.fnOf "first_turns_of" "first_turns_of" (defArgs (topS 2)) (defBody (topS 2)) (defScope (topS 2)) .none kV2 dc2 pm2 an2 cd2 ct2), sl2⟩) (c2 : PySem.W.codeIn K cd2 "first_turns_of" = true) (k2 : PySem.W.keepIn K (.ref f2) = true)
    {od3 an3 : Option Addr} {sl3 : Array (Option Value)} {oc3 kV3 dc3 pm3 ct3 : Value} {cd3 : Value}
    (a3 : PySem.W.nsIn K mainGlobals "_law_dice" = some (some (.ref f3))) (l3 : K.lookup f3 = some ⟨oc3, od3, .func (PySem.W.fnOf "_law_dice" "_law_dice" (defArgs (topS 4)) (defBody (topS 4)) (defScope (topS 4)) .none kV3 dc3 pm3 an3 cd3 ct3), sl3⟩) (c3 : PySem.W.codeIn K cd3 "_law_dice" = true) (k3 : PySem.W.keepIn K (.ref f3) = true)
    {od4 an4 : Option Addr} {sl4 : Array (Option Value)} {oc4 kV4 dc4 pm4 ct4 : Value} {cd4 : Value}
    (a4 : PySem.W.nsIn K mainGlobals "_law_roll" = some (some (.ref f4))) (l4 : K.lookup f4 = some ⟨oc4, od4, .func (PySem.W.fnOf "_law_roll" "_law_roll" (defArgs (topS 5)) (defBody (topS 5)) (defScope (topS 5)) .none kV4 dc4 pm4 an4 cd4 ct4), sl4⟩) (c4 : PySem.W.codeIn K cd4 "_law_roll" = true) (k4 : PySem.W.keepIn K (.ref f4) = true)
    {od5 an5 : Option Addr} {sl5 : Array (Option Value)} {oc5 kV5 dc5 pm5 ct5 : Value} {cd5 : Value}
    (a5 : PySem.W.nsIn K mainGlobals "_law_word" = some (some (.ref f5))) (l5 : K.lookup f5 = some ⟨oc5, od5, .func (PySem.W.fnOf "_law_word" "_law_word" (defArgs (topS 7)) (defBody (topS 7)) (defScope (topS 7)) .none kV5 dc5 pm5 an5 cd5 ct5), sl5⟩) (c5 : PySem.W.codeIn K cd5 "_law_word" = true) (k5 : PySem.W.keepIn K (.ref f5) = true)
    {od6 an6 : Option Addr} {sl6 : Array (Option Value)} {oc6 kV6 dc6 pm6 ct6 : Value} {cd6 : Value}
    (a6 : PySem.W.nsIn K mainGlobals "_law_first" = some (some (.ref f6))) (l6 : K.lookup f6 = some ⟨oc6, od6, .func (PySem.W.fnOf "_law_first" "_law_first" (defArgs (topS 8)) (defBody (topS 8)) (defScope (topS 8)) .none kV6 dc6 pm6 an6 cd6 ct6), sl6⟩) (c6 : PySem.W.codeIn K cd6 "_law_first" = true) (k6 : PySem.W.keepIn K (.ref f6) = true)
    {od7 an7 : Option Addr} {sl7 : Array (Option Value)} {oc7 kV7 dc7 pm7 ct7 : Value} {cd7 : Value}
    (a7 : PySem.W.nsIn K mainGlobals "_law_cuts" = some (some (.ref f7))) (l7 : K.lookup f7 = some ⟨oc7, od7, .func (PySem.W.fnOf "_law_cuts" "_law_cuts" (defArgs (topS 9)) (defBody (topS 9)) (defScope (topS 9)) .none kV7 dc7 pm7 an7 cd7 ct7), sl7⟩) (c7 : PySem.W.codeIn K cd7 "_law_cuts" = true) (k7 : PySem.W.keepIn K (.ref f7) = true)
    {od8 an8 : Option Addr} {sl8 : Array (Option Value)} {oc8 kV8 dc8 pm8 ct8 : Value} {cd8 : Value}
    (a8 : PySem.W.nsIn K mainGlobals "_law_rounds" = some (some (.ref f8))) (l8 : K.lookup f8 = some ⟨oc8, od8, .func (PySem.W.fnOf "_law_rounds" "_law_rounds" (defArgs (topS 6)) (defBody (topS 6)) (defScope (topS 6)) .none kV8 dc8 pm8 an8 cd8 ct8), sl8⟩) (c8 : PySem.W.codeIn K cd8 "_law_rounds" = true) (k8 : PySem.W.keepIn K (.ref f8) = true)
    {od9 an9 : Option Addr} {sl9 : Array (Option Value)} {oc9 kV9 dc9 pm9 ct9 : Value} {cd9 : Value}
    (a9 : PySem.W.nsIn K mainGlobals "law" = some (some (.ref f9))) (l9 : K.lookup f9 = some ⟨oc9, od9, .func (PySem.W.fnOf "law" "law" (defArgs (topS 10)) (defBody (topS 10)) (defScope (topS 10)) .none kV9 dc9 pm9 an9 cd9 ct9), sl9⟩) (c9 : PySem.W.codeIn K cd9 "law" = true) (k9 : PySem.W.keepIn K (.ref f9) = true)
    (z_len : PySem.W.nsIn K mainGlobals "len" = some none)
    (z_abs : PySem.W.nsIn K mainGlobals "abs" = some none)
    (z_int : PySem.W.nsIn K mainGlobals "int" = some none)
    (z_min : PySem.W.nsIn K mainGlobals "min" = some none)
    (z_max : PySem.W.nsIn K mainGlobals "max" = some none)
    (z_tuple : PySem.W.nsIn K mainGlobals "tuple" = some none)
    (z_list : PySem.W.nsIn K mainGlobals "list" = some none)
    (z_sorted : PySem.W.nsIn K mainGlobals "sorted" = some none)
    (z_sum : PySem.W.nsIn K mainGlobals "sum" = some none)
    (z_range : PySem.W.nsIn K mainGlobals "range" = some none)
    (z_reversed : PySem.W.nsIn K mainGlobals "reversed" = some none)
    (z_all : PySem.W.nsIn K mainGlobals "all" = some none)
    (z_any : PySem.W.nsIn K mainGlobals "any" = some none)
    (z_enumerate : PySem.W.nsIn K mainGlobals "enumerate" = some none)
    (z_zip : PySem.W.nsIn K mainGlobals "zip" = some none)
    (z_isinstance : PySem.W.nsIn K mainGlobals "isinstance" = some none)
    (z_bool : PySem.W.nsIn K mainGlobals "bool" = some none)
    (z_dict : PySem.W.nsIn K mainGlobals "dict" = some none)
    (z_set : PySem.W.nsIn K mainGlobals "set" = some none)
    (z_str : PySem.W.nsIn K mainGlobals "str" = some none)
    : LamX.LawAtS PySem.Challenge.rw_gardenworks_k03_words_told_by_falling_pa w K CX0 22 63 "script" mg fa h := by
  have e := hfa.symm.trans (PySem.W.mg_of X G a9)
  cases e
  have F1 := fun_mk (st := (topS 1)) l1 c1 k1
  have F2 := fun_mk (st := (topS 2)) l2 c2 k2
  have F3 := fun_mk (st := (topS 4)) l3 c3 k3
  have F4 := fun_mk (st := (topS 5)) l4 c4 k4
  have F5 := fun_mk (st := (topS 7)) l5 c5 k5
  have F6 := fun_mk (st := (topS 8)) l6 c6 k6
  have F7 := fun_mk (st := (topS 9)) l7 c7 k7
  have F8 := fun_mk (st := (topS 6)) l8 c8 k8
  have F9 := fun_mk (st := (topS 10)) l9 c9 k9
  have t1 := tin "is_first_turn" _ _ _ _ _ _ _ _ _ rq1 (PySem.W.mg_of X G a1) l1 rfl rfl lc1 vv1
  have b1 := F1.binds (ps := ["word"]) fun _ _ _ _ _ _ us hl => match us, hl with | [_], _ => rfl
  have b2 := F2.binds (ps := ["word"]) fun _ _ _ _ _ _ us hl => match us, hl with | [_], _ => rfl
  have b3 := F3.binds (ps := ["cell"]) fun _ _ _ _ _ _ us hl => match us, hl with | [_], _ => rfl
  have b4 := F4.binds (ps := ["dice", "many"]) fun _ _ _ _ _ _ us hl => match us, hl with | [_, _], _ => rfl
  have b5 := F5.binds (ps := ["dice", "most", "letters"]) fun _ _ _ _ _ _ us hl => match us, hl with | [_, _, _], _ => rfl
  have b6 := F6.binds (ps := ["word"]) fun _ _ _ _ _ _ us hl => match us, hl with | [_], _ => rfl
  have b7 := F7.binds (ps := ["word"]) fun _ _ _ _ _ _ us hl => match us, hl with | [_], _ => rfl
  have b8 := F8.binds (ps := ["script", "most"]) fun _ _ _ _ _ _ us hl => match us, hl with | [_, _], _ => rfl
  refine ⟨PySem.W.fnOf "law" "law" (defArgs (topS 10)) (defBody (topS 10)) (defScope (topS 10)) .none kV9 dc9 pm9 an9 cd9 ct9, [(cc1, P1)], spL K [P1], fun p hp => (by
    simp only [List.mem_cons, List.not_mem_nil, or_false] at hp
    rcases hp with rfl
    · exact t1.2), fun p hp => (by
    simp only [List.mem_cons, List.not_mem_nil, or_false] at hp
    rcases hp with rfl
    · exact nP1), fun p hp => (by
    simp only [List.mem_cons, List.not_mem_nil, or_false] at hp
    rcases hp with rfl
    · exact t1.1), fun s v => .of_eq rfl, fun H a ns hl _ hT hS => start_okG (cs := [(cc1, P1)]) H a ns hl hT hS, fun base _ _ TB => ?_⟩
  have T : Text K mg base [P1] gi dfs cst sts (fun f => match f with
      | 0 => f1
      | 1 => f2
      | 2 => f3
      | 3 => f4
      | 4 => f5
      | 5 => f6
      | 6 => f7
      | _ => f7) (fun f => match f with
      | 0 => PySem.W.fnOf "is_first_turn" "is_first_turn" (defArgs (topS 1)) (defBody (topS 1)) (defScope (topS 1)) .none kV1 dc1 pm1 an1 (.ref cc1) ct1
      | 1 => PySem.W.fnOf "first_turns_of" "first_turns_of" (defArgs (topS 2)) (defBody (topS 2)) (defScope (topS 2)) .none kV2 dc2 pm2 an2 cd2 ct2
      | 2 => PySem.W.fnOf "_law_dice" "_law_dice" (defArgs (topS 4)) (defBody (topS 4)) (defScope (topS 4)) .none kV3 dc3 pm3 an3 cd3 ct3
      | 3 => PySem.W.fnOf "_law_roll" "_law_roll" (defArgs (topS 5)) (defBody (topS 5)) (defScope (topS 5)) .none kV4 dc4 pm4 an4 cd4 ct4
      | 4 => PySem.W.fnOf "_law_word" "_law_word" (defArgs (topS 7)) (defBody (topS 7)) (defScope (topS 7)) .none kV5 dc5 pm5 an5 cd5 ct5
      | 5 => PySem.W.fnOf "_law_first" "_law_first" (defArgs (topS 8)) (defBody (topS 8)) (defScope (topS 8)) .none kV6 dc6 pm6 an6 cd6 ct6
      | 6 => PySem.W.fnOf "_law_cuts" "_law_cuts" (defArgs (topS 9)) (defBody (topS 9)) (defScope (topS 9)) .none kV7 dc7 pm7 an7 cd7 ct7
      | _ => PySem.W.fnOf "_law_cuts" "_law_cuts" (defArgs (topS 9)) (defBody (topS 9)) (defScope (topS 9)) .none kV7 dc7 pm7 an7 cd7 ct7) := {
    fs := rfl
    off := rfl
    df := fun f d h => by
      match f, h with
      | 0, h => cases h; exact ⟨⟨_, F1⟩, PySem.W.mg_of X G a1, b1, sc_is_first_turn, by decide +kernel, by decide +kernel, by decide +kernel, ok_is_first_turn, fun _ => ⟨cc1, P1, rfl, TabB_of (TB (cc1, P1) (by simp)), by simp⟩⟩
      | 1, h => cases h; exact ⟨⟨_, F2⟩, PySem.W.mg_of X G a2, b2, sc_first_turns_of, by decide +kernel, by decide +kernel, by decide +kernel, ok_first_turns_of, fun h => (by cases h)⟩
      | 2, h => cases h; exact ⟨⟨_, F3⟩, PySem.W.mg_of X G a3, b3, sc__law_dice, by decide +kernel, by decide +kernel, by decide +kernel, ok__law_dice, fun h => (by cases h)⟩
      | 3, h => cases h; exact ⟨⟨_, F4⟩, PySem.W.mg_of X G a4, b4, sc__law_roll, by decide +kernel, by decide +kernel, by decide +kernel, ok__law_roll, fun h => (by cases h)⟩
      | 4, h => cases h; exact ⟨⟨_, F5⟩, PySem.W.mg_of X G a5, b5, sc__law_word, by decide +kernel, by decide +kernel, by decide +kernel, ok__law_word, fun h => (by cases h)⟩
      | 5, h => cases h; exact ⟨⟨_, F6⟩, PySem.W.mg_of X G a6, b6, sc__law_first, by decide +kernel, by decide +kernel, by decide +kernel, ok__law_first, fun h => (by cases h)⟩
      | 6, h => cases h; exact ⟨⟨_, F7⟩, PySem.W.mg_of X G a7, b7, sc__law_cuts, by decide +kernel, by decide +kernel, by decide +kernel, ok__law_cuts, fun h => (by cases h)⟩
      | n + 7, h => simp [dfs] at h
    cs := fun g nm d h1 h2 => by
      simp [gi] at h1
    blt := fun x hx => by
      unfold bltNames at hx
      simp only [List.mem_cons, List.not_mem_nil, or_false] at hx
      rcases hx with rfl | rfl | rfl | rfl | rfl | rfl | rfl | rfl | rfl | rfl | rfl | rfl | rfl | rfl | rfl | rfl | rfl | rfl | rfl | rfl
      · exact PySem.W.mg_none_of X G z_len
      · exact PySem.W.mg_none_of X G z_abs
      · exact PySem.W.mg_none_of X G z_int
      · exact PySem.W.mg_none_of X G z_min
      · exact PySem.W.mg_none_of X G z_max
      · exact PySem.W.mg_none_of X G z_tuple
      · exact PySem.W.mg_none_of X G z_list
      · exact PySem.W.mg_none_of X G z_sorted
      · exact PySem.W.mg_none_of X G z_sum
      · exact PySem.W.mg_none_of X G z_range
      · exact PySem.W.mg_none_of X G z_reversed
      · exact PySem.W.mg_none_of X G z_all
      · exact PySem.W.mg_none_of X G z_any
      · exact PySem.W.mg_none_of X G z_enumerate
      · exact PySem.W.mg_none_of X G z_zip
      · exact PySem.W.mg_none_of X G z_isinstance
      · exact PySem.W.mg_none_of X G z_bool
      · exact PySem.W.mg_none_of X G z_dict
      · exact PySem.W.mg_none_of X G z_set
      · exact PySem.W.mg_none_of X G z_str
  }
  have FR : FnOk PySem.Challenge.rw_gardenworks_k03_words_told_by_falling_pa.prog w K mg base CX0 20 f8 (PySem.W.fnOf "_law_rounds" "_law_rounds" (defArgs (topS 6)) (defBody (topS 6)) (defScope (topS 6)) .none kV8 dc8 pm8 an8 cd8 ct8) ["script", "most"] (spR K [P1]) := rounds_fn (n := 9) (f := 2) T F8 sc__law_rounds ok__law_rounds dice_ok
  exact law_fn (f := 0) (nn := 7) (nc := 10) (n := lawN) (b := ir_law) (e := ir_lawE) T F9 sc_law (by decide +kernel) rfl (lg := false) (fun h => (by cases h)) ok_law (PySem.W.mg_of X G a8) F8.kp b8 FR law_runs
end GwK
open PySem PySem.W PyProof.Rows
set_option maxHeartbeats 0 in
theorem PySem.Challenge.cw_gardenworks_k03_words_told_by_falling_pa_holds : PySem.Challenge.rw_gardenworks_k03_words_told_by_falling_pa.Holds := by
  w_on; o_law; k_head; (case hw => w_witness2)
  k_fill
  refine Gw.walk_ofG (l := PySem.Challenge.rw_gardenworks_k03_words_told_by_falling_pa) (n := 63) (k := 22) (x := "script") (CX := fun _ => L2.CX0) rfl (by decide) rfl ⟨rfl, by decide, by decide⟩ (fun w h Y => PySem.W.kIn_of Y) ?F (fun _ _ _ _ _ h => h)
  case F =>
    intro w mg fa h KX G hmg tin
    refine' GwK.facts KX G hmg tin ?a1 ?l1 ?c1 ?k1 ?lc1 ?vv1 ?nP1 ?rq1 ?a2 ?l2 ?c2 ?k2 ?a3 ?l3 ?c3 ?k3 ?a4 ?l4 ?c4 ?k4 ?a5 ?l5 ?c5 ?k5 ?a6 ?l6 ?c6 ?k6 ?a7 ?l7 ?c7 ?k7 ?a8 ?l8 ?c8 ?k8 ?a9 ?l9 ?c9 ?k9 ?z_len ?z_abs ?z_int ?z_min ?z_max ?z_tuple ?z_list ?z_sorted ?z_sum ?z_range ?z_reversed ?z_all ?z_any ?z_enumerate ?z_zip ?z_isinstance ?z_bool ?z_dict ?z_set ?z_str
    (case a1 => first | k_is | rfl)
    (case l1 => first | k_is | rfl)
    (case c1 => first | k_is | rfl)
    (case k1 => first | k_is | rfl)
    (case lc1 => first | k_is | rfl)
    (case vv1 => first | k_is | rfl)
    (case nP1 => first | k_is | rfl)
    (case rq1 => first | k_is | rfl | decide +kernel)
    (case a2 => first | k_is | rfl)
    (case l2 => first | k_is | rfl)
    (case c2 => first | k_is | rfl)
    (case k2 => first | k_is | rfl)
    (case a3 => first | k_is | rfl)
    (case l3 => first | k_is | rfl)
    (case c3 => first | k_is | rfl)
    (case k3 => first | k_is | rfl)
    (case a4 => first | k_is | rfl)
    (case l4 => first | k_is | rfl)
    (case c4 => first | k_is | rfl)
    (case k4 => first | k_is | rfl)
    (case a5 => first | k_is | rfl)
    (case l5 => first | k_is | rfl)
    (case c5 => first | k_is | rfl)
    (case k5 => first | k_is | rfl)
    (case a6 => first | k_is | rfl)
    (case l6 => first | k_is | rfl)
    (case c6 => first | k_is | rfl)
    (case k6 => first | k_is | rfl)
    (case a7 => first | k_is | rfl)
    (case l7 => first | k_is | rfl)
    (case c7 => first | k_is | rfl)
    (case k7 => first | k_is | rfl)
    (case a8 => first | k_is | rfl)
    (case l8 => first | k_is | rfl)
    (case c8 => first | k_is | rfl)
    (case k8 => first | k_is | rfl)
    (case a9 => first | k_is | rfl)
    (case l9 => first | k_is | rfl)
    (case c9 => first | k_is | rfl)
    (case k9 => first | k_is | rfl)
    (case z_len => first | k_is | rfl)
    (case z_abs => first | k_is | rfl)
    (case z_int => first | k_is | rfl)
    (case z_min => first | k_is | rfl)
    (case z_max => first | k_is | rfl)
    (case z_tuple => first | k_is | rfl)
    (case z_list => first | k_is | rfl)
    (case z_sorted => first | k_is | rfl)
    (case z_sum => first | k_is | rfl)
    (case z_range => first | k_is | rfl)
    (case z_reversed => first | k_is | rfl)
    (case z_all => first | k_is | rfl)
    (case z_any => first | k_is | rfl)
    (case z_enumerate => first | k_is | rfl)
    (case z_zip => first | k_is | rfl)
    (case z_isinstance => first | k_is | rfl)
    (case z_bool => first | k_is | rfl)
    (case z_dict => first | k_is | rfl)
    (case z_set => first | k_is | rfl)
    (case z_str => first | k_is | rfl)

