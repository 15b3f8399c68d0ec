import PyProof.Rows.All
import Wide.All
import OpenK.AllK
import Wide.FinOn
import PySem.Str
import HandS.ForMost
import HandS.Exc
import HandS.ExcOwn
import HandS.WordsExc
import HandS.IsInst
import HandS.TupMul
import HandS.TupAny
import HandS.Flow
import HandS.Wide
import HandS.Deep
import HandS.Style
import KE.DataMinMax
import HandS.Comp
import HandS.Ends
import PySem.Challenge.RW_firstandlast_k20_bars
section
set_option linter.all false
set_option maxRecDepth 100000
/-! EvA: deep data, compact code, a pure evaluator (values with unique owners). -/
namespace Ev
open PySem (Str)

/-! ### data -/
inductive D where
  | no | non | bl (b : Bool) | int (i : Int) | str (s : Str)
  | tup (xs : List D) | lst (xs : List D)
  /-- a list that stands still: frozen while it is walked (false), or an object of the module (true) -/
  | rol (k : Bool) (xs : List D)
  | dct (ks : List (Sum Int Str)) (vs : List D)
  deriving Inhabited

mutual
def D.imm : D → Bool
  | .non | .bl _ | .int _ | .str _ => true
  | .tup xs => D.immL xs
  | .no | .lst _ | .rol _ _ | .dct _ _ => false
def D.immL : List D → Bool
  | [] => true
  | x :: xs => x.imm && D.immL xs
end
def D.isNo : D → Bool
  | .no => true
  | _ => false
def D.isNon : D → Bool
  | .non => true
  | _ => false
mutual
/-- ==, True being 1 -/
def D.eqv : D → D → Bool
  | .non, .non => true
  | .bl a, .bl b => a == b
  | .bl a, .int j => (if a then 1 else 0) == j
  | .int i, .bl b => i == (if b then 1 else 0)
  | .int i, .int j => i == j
  | .str x, .str y => x == y
  | .tup xs, .tup ys => D.eqvL xs ys
  | .lst xs, .lst ys => D.eqvL xs ys
  | .rol _ xs, .rol _ ys => D.eqvL xs ys
  | .lst xs, .rol _ ys => D.eqvL xs ys
  | .rol _ xs, .lst ys => D.eqvL xs ys
  | _, _ => false
def D.eqvL : List D → List D → Bool
  | [], [] => true
  | x :: xs, y :: ys => x.eqv y && D.eqvL xs ys
  | _, _ => false
end
mutual
/-- may == look at it -/
def D.cmpb : D → Bool
  | .non | .bl _ | .int _ | .str _ => true
  | .tup xs | .lst xs | .rol _ xs => D.cmpbL xs
  | .no | .dct _ _ => false
def D.cmpbL : List D → Bool
  | [] => true
  | x :: xs => x.cmpb && D.cmpbL xs
end
mutual
def D.dep : D → Nat
  | .tup xs | .lst xs | .rol _ xs => D.depL xs + 1
  | .no | .non | .bl _ | .int _ | .str _ | .dct _ _ => 0
def D.depL : List D → Nat
  | [] => 0
  | x :: xs => max x.dep (D.depL xs)
end

/-- what is left at exit, what was raised -/
structure Ex where
  c : Nat
  as : List D

abbrev Env := List D
inductive R (α : Type) where
  | ok (a : α) (ρ : Env)
  | rz (x : Ex) (ρ : Env)
  | st
  deriving Inhabited
@[inline] def R.bind {α β : Type} (r : R α) (f : α → Env → R β) : R β :=
  match r with
  | .ok a ρ => f a ρ
  | .rz x ρ => .rz x ρ
  | .st => .st

/-! ### code -/
inductive Op2 where
  | add | sub | mul | fdiv | mod | pow | shl | shr | band | bor | bxor
  deriving DecidableEq
inductive Cmp where
  | eq | ne | lt | le | gt | ge | is | isn | mem | nmem
  deriving DecidableEq
/-- built-in types of isinstance -/
inductive Ty where
  | int | bool | str | tuple | list
  deriving DecidableEq
inductive Blt where
  | len | int | abs | max | min | sum | tuple | list | str | sorted | bool | sset | lset
  deriving DecidableEq
inductive Mth where
  | append | extend | pop | popAt | insert | remove | reverse | index | count
  deriving DecidableEq
mutual
inductive E where
  | var (i : Nat) | mov (i : Nat) | lend (i : Nat)
  | non | bl (b : Bool) | int (i : Int) | str (s : Str)
  | glb (g : Nat)
  | bin (o : Op2) (a b : E) | neg (a : E)
  | cmp (o : Cmp) (a b : E) | chn (o p : Cmp) (a b c : E)
  | not (a : E) | and (a b : E) | or (a b : E)
  | ite (c a b : E)
  | tup (es : Es) | lst (es : Es)
  | idx (a i : E) | slc (a lo hi : E) | part
  | call (f : Nat) (es : Es) | callk (f n : Nat) (ks : List Nat) (es : Es)
  | blt (b : Blt) (es : Es)
  | isi (a : E) (t : Ty) | isis (a : E) (ts : List Ty)
  | comp (elt : E) (tg : Tg) (it : It) (cond : E) (has : Bool) (own : List Nat)
  | mth (m : Mth) (p : P) (es : Es)
inductive Es where
  | nil | cons (e : E) (es : Es)
/-- what a loop walks -/
inductive It where
  | rng1 (a : E) | rng2 (a b : E)
  | froz (i : Nat) | seqv (a : E) | seq (a : E)
  | zip (a b : E)
  | enum (a : E)
/-- a place within the value of a slot -/
inductive P where
  | root (i : Nat) | at (p : P) (e : E)
/-- a target of a for, an assignment -/
inductive Tg where
  | nm (i : Nat) | tup (ts : Tgs)
inductive Tgs where
  | nil | cons (t : Tg) (ts : Tgs)
end
mutual
inductive S where
  | set (tg : Tg) (e : E)
  | par (is : List Nat) (es : Es)
  | put (p : P) (e : E)
  /-- x[i] = e with an index that calls -/
  | putr (x : Nat) (i e : E)
  | aug (i : Nat) (o : Op2) (e : E)
  | augp (p : P) (o : Op2) (e : E)
  | ex (e : E)
  | ret (e : E) | ret0
  | ite (c : E) (a b : Ss)
  | loop (tg : Tg) (it : It) (body : Ss)
  | whl (c : E) (body : Ss)
  | brk | cnt | pass
inductive Ss where
  | nil | cons (s : S) (ss : Ss)
end

/-! ### meanings of operators -/
def line : Nat := 16777216
def fits (n : Nat) : Bool := decide (n ≤ line)
theorem fits_iff {n : Nat} : fits n = true ↔ n ≤ line := by unfold fits; exact decide_eq_true_iff
def Op2.run : Op2 → D → D → Option D
  | .add, .int i, .int j => some (.int (i + j))
  | .add, .str x, .str y => if x.length + y.length ≤ line then some (.str (x ++ y)) else none
  | .add, .tup xs, .tup ys => if xs.length + ys.length ≤ line ∧ D.immL xs ∧ D.immL ys then some (.tup (xs ++ ys)) else none
  | .add, .lst xs, .lst ys => if xs.length + ys.length ≤ line ∧ D.immL xs ∧ D.immL ys then some (.lst (xs ++ ys)) else none
  | .sub, .int i, .int j => some (.int (i - j))
  | .mul, .int i, .int j => if i.natAbs < 2 ^ 64 ∨ j.natAbs < 2 ^ 64 then some (.int (i * j)) else none
  | .mul, .tup [x], .int k => if 1 ≤ k ∧ k ≤ 1000 ∧ x.imm then some (.tup (List.replicate k.toNat x)) else none
  | .mul, .lst xs, .int k => if -1000000 ≤ k ∧ k ≤ 1000000 ∧ xs.length * k.toNat ≤ line ∧ D.immL xs then some (.lst (List.replicate k.toNat xs).flatten) else none
  | .fdiv, .int i, .int j => if j ≠ 0 ∧ j.natAbs < 1073741824 then some (.int (i.fdiv j)) else none
  | .mod, .int i, .int j => if j ≠ 0 then some (.int (i.fmod j)) else none
  | .pow, .int i, .int j => if 0 ≤ j ∧ j ≤ 1000000 ∧ i.natAbs < 2 ^ 64 then some (.int (i ^ j.toNat)) else none
  | .shl, .int i, .int j => if 0 ≤ j ∧ j ≤ 1000000 ∧ i.natAbs < 2 ^ 64 then some (.int (i * 2 ^ j.toNat)) else none
  | .shr, .int i, .int j => if 0 ≤ j then some (.int (i / 2 ^ j.toNat)) else none
  | _, _, _ => none

/-- op= of ints -/
def Op2.runI : Op2 → Int → Int → Option Int
  | .add, i, j => some (i + j)
  | .sub, i, j => some (i - j)
  | _, _, _ => none

def D.memL (x : D) (xs : List D) : Bool := xs.any fun y => y.eqv x
def D.memOk (x : D) (ys : List D) : Bool := x.cmpb && D.cmpbL ys && decide (x.dep ≤ 60)
def Cmp.run : Cmp → D → D → Option Bool
  | .eq, x, y => if x.cmpb && y.cmpb && decide (min x.dep y.dep ≤ 60) then some (x.eqv y) else none
  | .ne, x, y => if x.cmpb && y.cmpb && decide (min x.dep y.dep ≤ 60) then some (!x.eqv y) else none
  | .lt, .int i, .int j => some (decide (i < j))
  | .le, .int i, .int j => some (decide (i ≤ j))
  | .gt, .int i, .int j => some (decide (j < i))
  | .ge, .int i, .int j => some (decide (j ≤ i))
  | .is, .bl a, .bl b => some (decide (a = b))
  | .isn, .bl a, .bl b => some (!decide (a = b))
  | .is, x, .non => if x.isNo then none else some x.isNon
  | .isn, x, .non => if x.isNo then none else some (!x.isNon)
  | .mem, x, .lst ys => if x.memOk ys then some (x.memL ys) else none
  | .mem, x, .rol _ ys => if x.memOk ys then some (x.memL ys) else none
  | .mem, x, .tup ys => if x.memOk ys then some (x.memL ys) else none
  | .nmem, x, .lst ys => if x.memOk ys then some (!x.memL ys) else none
  | .nmem, x, .rol _ ys => if x.memOk ys then some (!x.memL ys) else none
  | .nmem, x, .tup ys => if x.memOk ys then some (!x.memL ys) else none
  | _, _, _ => none
def D.truth : D → Option Bool
  | .non => some false
  | .bl b => some b
  | .int i => some (i != 0)
  | .str s => if s.length ≤ line then some (s.length != 0) else none
  | .tup xs | .lst xs | .rol _ xs => some (!xs.isEmpty)
  | .no | .dct _ _ => none
def Ty.of : Ty → D → Option Bool
  | _, .no => none
  | _, .dct _ _ => none
  | .int, .int _ => some true
  | .int, .bl _ => some true
  | .bool, .bl _ => some true
  | .str, .str _ => some true
  | .tuple, .tup _ => some true
  | .list, .lst _ => some true
  | .list, .rol _ _ => some true
  | _, _ => some false
def D.isIs (x : D) : List Ty → Option Bool
  | [] => some false
  | t :: ts => match t.of x with
    | some true => some true
    | some false => x.isIs ts
    | none => none
/-- the place of an index, negative ones from the end -/
def ixN (n : Nat) (i : Int) : Option Nat := if 0 ≤ i then (if i < n then some i.toNat else none) else if -(n : Int) ≤ i then some (i + n).toNat else none
def D.item (x i : D) : Option D :=
  match x, i with
  | .tup xs, .int k | .lst xs, .int k | .rol _ xs, .int k => (ixN xs.length k).bind fun j => xs[j]?
  | .str s, .int k => if s.length ≤ line then (ixN s.cps.toList.length k).bind fun j => s.cps.toList[j]?.map fun c => .str ⟨#[c]⟩ else none
  | _, _ => none
/-- a bound of a slice of n items, d where it is left out -/
def sIx (n d : Nat) : Option Int → Nat
  | none => d
  | some v => if v < 0 then (v + n).toNat else min v.toNat n
def cut {α : Type} (xs : List α) (lo hi : Option Int) : List α := (xs.drop (sIx xs.length 0 lo)).take (sIx xs.length xs.length hi - sIx xs.length 0 lo)
def D.slice (x : D) (lo hi : Option Int) : Option D :=
  match x with
  | .tup xs => if D.immL xs then some (.tup (cut xs lo hi)) else none
  | .lst xs => if D.immL xs then some (.lst (cut xs lo hi)) else none
  | .rol _ xs => if D.immL xs then some (.lst (cut xs lo hi)) else none
  | .str s => if s.length ≤ line then some (.str ⟨(cut s.cps.toList lo hi).toArray⟩) else none
  | _ => none
def D.ints : List D → Option (List Int)
  | [] => some []
  | .int i :: xs => (D.ints xs).map (i :: ·)
  | _ => none
def D.strs : List D → Option (List Str)
  | [] => some []
  | .str i :: xs => (D.strs xs).map (i :: ·)
  | _ => none
def maxI : List Int → Option Int
  | [] => none
  | x :: xs => some (xs.foldl max x)
def minI : List Int → Option Int
  | [] => none
  | x :: xs => some (xs.foldl min x)
def Blt.run : Blt → List D → Option D
  | .len, [.tup xs] => some (.int xs.length)
  | .len, [.lst xs] => some (.int xs.length)
  | .len, [.rol _ xs] => some (.int xs.length)
  | .len, [.str s] => if s.length ≤ line then some (.int s.length) else none
  | .int, [.int i] => some (.int i)
  | .int, [.bl b] => some (.int (if b then 1 else 0))
  | .abs, [.int i] => some (.int (if i < 0 then -i else i))
  | .max, [.int i, .int j] => some (.int (if j > i then j else i))
  | .min, [.int i, .int j] => some (.int (if j < i then j else i))
  | .max, [.lst xs] => (D.ints xs).bind fun ns => (maxI ns).map .int
  | .max, [.tup xs] => (D.ints xs).bind fun ns => (maxI ns).map .int
  | .min, [.lst xs] => (D.ints xs).bind fun ns => (minI ns).map .int
  | .min, [.tup xs] => (D.ints xs).bind fun ns => (minI ns).map .int
  | .sum, [.lst xs] => (D.ints xs).map fun ns => .int ns.sum
  | .tuple, [.lst xs] => if D.immL xs then some (.tup xs) else none
  | .tuple, [.rol _ xs] => if D.immL xs then some (.tup xs) else none
  | .tuple, [.tup xs] => if D.immL xs then some (.tup xs) else none
  | .list, [.lst xs] => if D.immL xs then some (.lst xs) else none
  | .list, [.rol _ xs] => if D.immL xs then some (.lst xs) else none
  | .list, [.tup xs] => if D.immL xs then some (.lst xs) else none
  | .bool, [.int i] => some (.bl (i != 0))
  | .bool, [.bl b] => some (.bl b)
  | _, _ => none

/-! ### places -/
/-- the value at a list of places -/
def D.get : D → List D → Option D
  | d, [] => some d
  | .lst xs, .int k :: ss => match (ixN xs.length k).bind fun j => xs[j]? with
    | some x => x.get ss
    | none => none
  | _, _ :: _ => none
/-- .. changed -/
def D.upd (f : D → Option D) : D → List D → Option D
  | d, [] => f d
  | .lst xs, .int k :: ss => match ixN xs.length k with
    | some j => match xs[j]? with
      | some x => (D.upd f x ss).map fun y => .lst (xs.set j y)
      | none => none
    | none => none
  | _, _ :: _ => none

/-- a method that changes its list: what it answers, the list behind it -/
def Mth.run : Mth → List D → List D → Option (D × List D)
  | .append, xs, [x] => if xs.length < line then some (.non, xs ++ [x]) else none
  | .extend, xs, [.lst ys] => if xs.length + ys.length ≤ line ∧ D.immL ys then some (.non, xs ++ ys) else none
  | .pop, xs, [] => match xs.getLast? with
    | some x => some (x, xs.dropLast)
    | none => none
  | .reverse, xs, [] => some (.non, xs.reverse)
  | _, _, _ => none

def D.int? : D → Option Int
  | .int i => some i
  | _ => none
def D.lst? : D → Option (List D)
  | .lst xs => some xs
  | _ => none
/-- not a frozen one -/
def D.movable : D → Bool
  | .rol _ _ => false
  | .no => false
  | _ => true
/-- stands still while it is walked -/
def D.still : D → Bool
  | .lst _ => false
  | _ => true
/-- v at the last of the places -/
def D.putAt (v : D) (d : D) (ss : List D) : Option D :=
  match ss.getLast? with
  | none => none
  | some i => D.upd (fun c => match c, i with
    | .lst xs, .int k => (ixN xs.length k).map fun j => .lst (xs.set j v)
    | _, _ => none) d ss.dropLast
/-- never changes -/
def D.sits : D → Bool
  | .tup _ => true
  | .rol true _ => true
  | _ => false
def E.lent? : E → Option Nat
  | .lend i => some i
  | _ => none
/-- a bound of a slice -/
def partOf (e : E) (d : D) : Option (Option Int) := match e with
  | .part => some none
  | _ => d.int?.map some
/-- may stand as a test -/
def E.testable : E → Bool
  | .ite _ _ _ => false
  | .lend _ => false
  | .part => false
  | _ => true
/-- no place: what it gives is its own -/
def E.temp : E → Bool
  | .var _ => false
  | .idx _ _ => false
  | _ => true
/-! ### quiet code changes nothing -/
mutual
def E.quiet : E → Bool
  | .var _ | .non | .bl _ | .int _ | .str _ | .glb _ | .part => true
  | .mov _ | .lend _ => false
  | .bin _ a b | .cmp _ a b | .idx a b | .and a b | .or a b => a.quiet && b.quiet
  | .chn _ _ a b c | .ite a b c | .slc a b c => a.quiet && b.quiet && c.quiet
  | .neg a | .not a | .isi a _ | .isis a _ => a.quiet
  | .tup es | .lst es | .blt _ es => es.quiet
  | .call _ _ | .callk _ _ _ _ | .comp _ _ _ _ _ _ | .mth _ _ _ => false
def Es.quiet : Es → Bool
  | .nil => true
  | .cons e es => e.quiet && es.quiet
end
def P.quiet : P → Bool
  | .root _ => true
  | .at p e => p.quiet && e.quiet
def P.isRoot : P → Bool
  | .root _ => true
  | .at _ _ => false
/-- the places but the last one are asked ahead: nothing changes meanwhile -/
def P.okIn : P → Bool
  | .root _ => true
  | .at p e => p.isRoot || (p.okIn && e.quiet)
/-- several slots stored -/
def setL (ok : Nat → Bool) : List Nat → List D → Env → Option Env
  | [], [], ρ => some ρ
  | i :: is, d :: ds, ρ => if i < ρ.length ∧ ok i = true then setL ok is ds (ρ.set i d) else none
  | _, _, _ => none

/-! ### the evaluator -/
/-- a value that must be there -/
def opt {α β : Type} (o : Option β) (f : β → R α) : R α := match o with
  | some b => f b
  | none => .st
/-- only if -/
def ifOk {α : Type} (b : Bool) (r : R α) : R α := if b = true then r else .st
section
variable (gl : Nat → Option D) (call : Nat → List D → R D)

/-- read a slot -/
def rd (ρ : Env) (i : Nat) : Option D := match ρ[i]? with
  | some .no => none
  | o => o
def needs (d : D) (a : E) (q : Bool) : Bool := d.imm || a.temp || q

/-- the arguments of a call: those that are lent are taken out of their slots -/
def takeL : List (Option Nat × D) → Env → Option (List D × Env)
  | [], ρ => some ([], ρ)
  | (none, d) :: r, ρ => (takeL r ρ).map fun p => (d :: p.1, p.2)
  | (some i, _) :: r, ρ => match rd ρ i with
    | some d => (takeL r (ρ.set i .no)).map fun p => (d :: p.1, p.2)
    | none => none
def giveL : List (Option Nat × D) → List D → Env → Env
  | (some i, _) :: r, d :: ds, ρ => (giveL r ds ρ).set i d
  | (none, _) :: r, _ :: ds, ρ => giveL r ds ρ
  | _, _, ρ => ρ
/-- keyword arguments in the parameters' order: n by position, then those of the parameters ks -/
def reord {α : Type} (n : Nat) (ks : List Nat) (as : List α) : List α := (List.range as.length).filterMap fun p => if p < n then as[p]? else as[n + ks.idxOf p]?
def items (d : D) : Option (List D) := match d with
  | .tup xs => if D.immL xs then some xs else none
  | .lst xs => if D.immL xs then some xs else none
  | .rol _ xs => if D.immL xs then some xs else none
  | _ => none
def rngL (i j : Int) : List D := (List.range (j - i).toNat).map fun (k : Nat) => .int (i + (k : Int))
def rngOk (i : Int) : Bool := decide (-(2 ^ 62) ≤ i ∧ i < 2 ^ 62)
def Tgs.len : Tgs → Nat
  | .nil => 0
  | .cons _ ts => ts.len + 1
mutual
/-- a target stores; ok i: the slot may be stored -/
def stT (ok : Nat → Bool) : Tg → D → Env → Option Env
  | .nm i, d, ρ => if i < ρ.length ∧ ok i = true then some (ρ.set i d) else none
  | .tup ts, d, ρ => match d with
    | .tup ds => if ds.length = ts.len then stTs ok ts ds ρ else none
    | _ => none
def stTs (ok : Nat → Bool) : Tgs → List D → Env → Option Env
  | .nil, ds, ρ => match ds with
    | [] => some ρ
    | _ => none
  | .cons t ts, ds, ρ => match ds with
    | d :: ds => (stT ok t d ρ).bind fun ρ' => stTs ok ts ds ρ'
    | [] => none
end
def wipe (ρ : Env) : List Nat → Env
  | [] => ρ
  | v :: vs => (wipe ρ vs).set v .no
/-- the frozen list is a list again -/
def thaw : Option Nat → Env → Option Env
  | none, ρ => some ρ
  | some i, ρ => match ρ[i]? with
    | some (.rol false xs) => some (ρ.set i (.lst xs))
    | _ => none
/-- a comprehension's turns: no exception leaves -/
def compL (turn : D → Env → R (Option D)) : List D → Env → R (List D)
  | [], ρ => .ok [] ρ
  | d :: ds, ρ => match turn d ρ with
    | .ok o ρ' => match compL turn ds ρ' with
      | .ok xs ρ'' => .ok (match o with
        | some x => x :: xs
        | none => xs) ρ''
      | .rz _ _ => .st
      | .st => .st
    | .rz _ _ => .st
    | .st => .st
def okAll : Nat → Bool := fun _ => true

/-- how a value is wanted: its owner the caller; borrowed where it is a place; its truth -/
inductive Md where
  | v | b | t
  deriving DecidableEq
def Md.tr (m : Md) (r : R D) : R D := match m with
  | .t => r.bind fun x ρ => opt x.truth fun k => .ok (.bl k) ρ
  | _ => r
/-- a place's value -/
def Md.plc (m : Md) (d : D) (ρ : Env) : R D := match m with
  | .v => ifOk d.imm (.ok d ρ)
  | .b => .ok d ρ
  | .t => opt d.truth fun k => .ok (.bl k) ρ
def D.isT : D → Bool
  | .bl b => b
  | _ => false
/-- no index is left -/
def callR (f : Nat) (as : List (Option Nat × D)) (ρ1 : Env) : R D := opt (takeL as ρ1) fun q => match call f q.1 with
    | .ok d ds' => .ok d (giveL as ds' q.2)
    | .rz x ds' => .rz x (giveL as ds' q.2)
    | .st => .st
mutual
def evM : E → Md → Env → R D
  | .var i, m, ρ => opt (rd ρ i) fun d => m.plc d ρ
  | .mov i, m, ρ => m.tr <| opt (rd ρ i) fun d => if d.imm = true then .ok d ρ else ifOk d.movable (.ok d (ρ.set i .no))
  | .lend _, _, _ => .st
  | .non, m, ρ => m.tr <| .ok .non ρ
  | .bl b, m, ρ => m.tr <| .ok (.bl b) ρ
  | .int i, m, ρ => m.tr <| .ok (.int i) ρ
  | .str s, m, ρ => m.tr <| .ok (.str s) ρ
  | .part, m, ρ => m.tr <| .ok .non ρ
  | .glb g, m, ρ => m.tr <| opt (gl g) fun d => ifOk d.imm (.ok d ρ)
  | .bin o a b, m, ρ => m.tr <| (evM a .b ρ).bind fun x ρ1 => ifOk (needs x a b.quiet) <| (evM b .b ρ1).bind fun y ρ2 => opt (o.run x y) fun z => .ok z ρ2
  | .neg a, m, ρ => m.tr <| (evM a .b ρ).bind fun x ρ1 => opt x.int? fun i => .ok (.int (-i)) ρ1
  | .cmp o a b, m, ρ => m.tr <| (evM a .b ρ).bind fun x ρ1 => ifOk (needs x a b.quiet) <| (evM b .b ρ1).bind fun y ρ2 => opt (o.run x y) fun z => .ok (.bl z) ρ2
  | .chn o p a b c, m, ρ => m.tr <| (evM a .b ρ).bind fun x ρ1 => ifOk (needs x a b.quiet) <| (evM b .b ρ1).bind fun y ρ2 => opt (o.run x y) fun z =>
      if z = true then ifOk (needs y b c.quiet) <| (evM c .b ρ2).bind fun w ρ3 => opt (p.run y w) fun k => .ok (.bl k) ρ3 else .ok (.bl false) ρ2
  | .not a, m, ρ => match m with
    | .t => (evM a .t ρ).bind fun k ρ1 => .ok (.bl (!k.isT)) ρ1
    | _ => (evM a .b ρ).bind fun x ρ1 => opt x.truth fun k => .ok (.bl (!k)) ρ1
  | .and a b, m, ρ => match m with
    | .t => (evM a .t ρ).bind fun k ρ1 => if k.isT = true then evM b .t ρ1 else .ok (.bl false) ρ1
    | _ => (evM a .v ρ).bind fun x ρ1 => opt x.truth fun k => if k = true then evM b .v ρ1 else .ok x ρ1
  | .or a b, m, ρ => match m with
    | .t => (evM a .t ρ).bind fun k ρ1 => if k.isT = true then .ok (.bl true) ρ1 else evM b .t ρ1
    | _ => (evM a .v ρ).bind fun x ρ1 => opt x.truth fun k => if k = true then .ok x ρ1 else evM b .v ρ1
  | .ite c a b, m, ρ => m.tr <| (evM c .t ρ).bind fun k ρ1 => if k.isT = true then evM a .v ρ1 else evM b .v ρ1
  | .tup es, m, ρ => m.tr <| (evEs es ρ).bind fun ds ρ1 => ifOk (fits ds.length) (.ok (.tup ds) ρ1)
  | .lst es, m, ρ => m.tr <| (evEs es ρ).bind fun ds ρ1 => ifOk (fits ds.length) (.ok (.lst ds) ρ1)
  | .idx a i, m, ρ => (evM a .b ρ).bind fun x ρ1 => ifOk (needs x a i.quiet) <| (evM i .v ρ1).bind fun k ρ2 => opt (x.item k) fun d => m.plc d ρ2
  | .slc a lo hi, m, ρ => m.tr <| (evM a .b ρ).bind fun x ρ1 => ifOk (needs x a (lo.quiet && hi.quiet)) <| (evM lo .v ρ1).bind fun l ρ2 => opt (partOf lo l) fun l => (evM hi .v ρ2).bind fun h ρ3 =>
      opt (partOf hi h) fun h => opt (x.slice l h) fun d => .ok d ρ3
  | .call f es, m, ρ => m.tr <| (evAs es ρ).bind fun as ρ1 => callR call f as ρ1
  | .callk f n ks es, m, ρ => m.tr <| (evAs es ρ).bind fun as ρ1 => callR call f (reord n ks as) ρ1
  | .blt b es, m, ρ => m.tr <| (evBs es ρ).bind fun ds ρ1 => opt (b.run ds) fun d => .ok d ρ1
  | .isi a t, m, ρ => m.tr <| (evM a .b ρ).bind fun x ρ1 => opt (t.of x) fun b => .ok (.bl b) ρ1
  | .isis a ts, m, ρ => m.tr <| (evM a .b ρ).bind fun x ρ1 => opt (x.isIs ts) fun b => .ok (.bl b) ρ1
  | .comp elt tg it cond _ own, m, ρ => m.tr <| (evI it ρ).bind fun q ρ1 =>
      (compL (fun d ρ' => opt (stT (fun i => own.contains i) tg d ρ') fun ρ2 => (evM cond .t ρ2).bind fun k ρ3 =>
        if k.isT = true then (evM elt .v ρ3).bind fun x ρ4 => .ok (some x) (wipe ρ4 own) else .ok none (wipe ρ3 own)) q.1 (wipe ρ1 own)).bind fun xs ρ5 =>
      opt (thaw q.2 ρ5) fun ρ6 => .ok (.lst xs) ρ6
  | .mth k p es, m, ρ => m.tr <| (evP p ρ).bind fun q _ => opt (rd ρ q.1) fun d0 => opt (d0.get q.2) fun c0 => opt c0.lst? fun _ => (evEs es ρ).bind fun ds ρ2 =>
      opt (rd ρ2 q.1) fun d => opt (d.get q.2) fun c => opt c.lst? fun xs => opt (k.run xs ds) fun r =>
        opt (D.upd (fun _ => some (.lst r.2)) d q.2) fun d' => .ok r.1 (ρ2.set q.1 d')
def evEs : Es → Env → R (List D)
  | .nil, ρ => .ok [] ρ
  | .cons e es, ρ => (evM e .v ρ).bind fun d ρ1 => (evEs es ρ1).bind fun ds ρ2 => .ok (d :: ds) ρ2
/-- borrowed arguments of a built-in -/
def evBs : Es → Env → R (List D)
  | .nil, ρ => .ok [] ρ
  | .cons e es, ρ => (evM e .b ρ).bind fun d ρ1 => ifOk (needs d e es.quiet) <| (evBs es ρ1).bind fun ds ρ2 => .ok (d :: ds) ρ2
/-- arguments of a call: values, or slots that are lent -/
def evAs : Es → Env → R (List (Option Nat × D))
  | .nil, ρ => .ok [] ρ
  | .cons e es, ρ => match e.lent? with
    | some i => opt (rd ρ i) fun _ => (evAs es ρ).bind fun ds ρ2 => .ok ((some i, .no) :: ds) ρ2
    | none => (evM e .v ρ).bind fun d ρ1 => (evAs es ρ1).bind fun ds ρ2 => .ok ((none, d) :: ds) ρ2
/-- what is walked; the slot that is frozen meanwhile -/
def evI : It → Env → R (List D × Option Nat)
  | .rng1 a, ρ => (evM a .v ρ).bind fun x ρ1 => opt x.int? fun j => ifOk (rngOk j && fits j.toNat) (.ok (rngL 0 j, none) ρ1)
  | .rng2 a b, ρ => (evM a .v ρ).bind fun x ρ1 => (evM b .v ρ1).bind fun y ρ2 => opt x.int? fun i => opt y.int? fun j => ifOk (rngOk i && rngOk j && fits (j - i).toNat) (.ok (rngL i j, none) ρ2)
  | .froz i, ρ => opt (rd ρ i) fun d => opt (items d) fun xs => if d.still = true then .ok (xs, none) ρ else .ok (xs, some i) (ρ.set i (.rol false xs))
  | .seqv a, ρ => (evM a .b ρ).bind fun d ρ1 => opt (items d) fun xs => ifOk (d.sits) (.ok (xs, none) ρ1)
  | .seq a, ρ => (evM a .v ρ).bind fun d ρ1 => opt (items d) fun xs => .ok (xs, none) ρ1
  | .zip _ _, _ => .st
  | .enum _, _ => .st
/-- a place: the slot, the places within -/
def evP : P → Env → R (Nat × List D)
  | .root i, ρ => .ok (i, []) ρ
  | .at p e, ρ => (evP p ρ).bind fun q _ => opt (rd ρ q.1) fun d0 => opt (d0.get q.2) fun _ => (evM e .v ρ).bind fun d _ => .ok (q.1, q.2 ++ [d]) ρ
end

/-! ### statements -/
/-- how a statement ends -/
inductive O where
  | nx (ρ : Env) | rt (d : D) (ρ : Env) | bk (ρ : Env) | ct (ρ : Env)
  | rz (x : Ex) (ρ : Env) | st
  deriving Inhabited
def R.o {α : Type} (r : R α) (f : α → Env → O) : O := match r with
  | .ok a ρ => f a ρ
  | .rz x ρ => .rz x ρ
  | .st => .st
def optO {β : Type} (o : Option β) (f : β → O) : O := match o with
  | some b => f b
  | none => .st
def ifO (b : Bool) (r : O) : O := if b = true then r else .st
def O.next (o : O) (f : Env → O) : O := match o with
  | .nx ρ => f ρ
  | o => o
/-- a turn of a loop, then the others -/
def O.turn (o : O) (f : Env → O) : O := match o with
  | .nx ρ => f ρ
  | .ct ρ => f ρ
  | .bk ρ => .nx ρ
  | o => o
/-- the turns of a for -/
def forL (turn : D → Env → O) : List D → Env → O
  | [], ρ => .nx ρ
  | d :: ds, ρ => (turn d ρ).turn fun ρ' => forL turn ds ρ'
/-- the turns of a while: at most n -/
def whlL (c : Env → R D) (body : Env → O) : Nat → Env → O
  | 0, _ => .st
  | n + 1, ρ => (c ρ).o fun k ρ1 => if k.isT = true then (body ρ1).turn (fun ρ' => whlL c body n ρ') else .nx ρ1
variable (fuel : Nat)
/-- the slot of the list that is walked is not stored meanwhile -/
def okBut (ok : Nat → Bool) : Option Nat → Nat → Bool
  | none => ok
  | some i => fun j => ok j && j != i
/-- the frozen list is a list again -/
def O.thaw (f : Option Nat) : O → O
  | .nx ρ => optO (Ev.thaw f ρ) .nx
  | .rt d ρ => optO (Ev.thaw f ρ) fun ρ => .rt d ρ
  | .rz x ρ => optO (Ev.thaw f ρ) fun ρ => .rz x ρ
  | _ => .st
mutual
def evS : S → (Nat → Bool) → Env → O
  | .set tg e, ok, ρ => (evM gl call e .v ρ).o fun d ρ1 => optO (stT ok tg d ρ1) .nx
  | .par is es, ok, ρ => (evEs gl call es ρ).o fun ds ρ1 => optO (setL ok is ds ρ1) .nx
  | .put p e, _, ρ => (evM gl call e .v ρ).o fun v ρ1 => (evP gl call p ρ1).o fun q _ =>
      optO (rd ρ1 q.1) fun d => optO (D.putAt v d q.2) fun d' => .nx (ρ1.set q.1 d')
  | .putr x i e, _, ρ => (evM gl call e .v ρ).o fun v ρ1 => optO (rd ρ1 x) fun _ => (evM gl call i .v ρ1).o fun k ρ2 => ifO k.imm <|
      optO (rd ρ2 x) fun d => optO (D.putAt v d [k]) fun d' => .nx (ρ2.set x d')
  | .aug i o e, ok, ρ => optO (rd ρ i) fun x => optO x.int? fun a => (evM gl call e .v ρ).o fun y ρ1 => optO y.int? fun b => optO (o.runI a b) fun z => optO (stT ok (.nm i) (.int z) ρ1) .nx
  | .ex e, _, ρ => (evM gl call e .v ρ).o fun _ ρ1 => .nx ρ1
  | .ret e, _, ρ => (evM gl call e .v ρ).o fun d ρ1 => .rt d ρ1
  | .ret0, _, ρ => .rt .non ρ
  | .ite c a b, ok, ρ => (evM gl call c .t ρ).o fun k ρ1 => if k.isT = true then evSs a ok ρ1 else evSs b ok ρ1
  | .loop tg it body, ok, ρ => (evI gl call it ρ).o fun q ρ1 => (forL (fun d ρ' => optO (stT (okBut ok q.2) tg d ρ') fun ρ2 => evSs body (okBut ok q.2) ρ2) q.1 ρ1).thaw q.2
  | .whl c body, ok, ρ => whlL (fun ρ => evM gl call c .t ρ) (fun ρ => evSs body ok ρ) fuel ρ
  | .brk, _, ρ => .bk ρ
  | .cnt, _, ρ => .ct ρ
  | .pass, _, ρ => .nx ρ
  | .augp _ _ _, _, _ => .st
def evSs : Ss → (Nat → Bool) → Env → O
  | .nil, _, ρ => .nx ρ
  | .cons s ss, ok, ρ => (evS s ok ρ).next fun ρ1 => evSs ss ok ρ1
end
end

/-! ### defs -/
structure Def where
  ps : Nat            -- parameters
  ns : Nat            -- slots
  body : Ss
structure Pg where
  defs : List Def
  glb : List D
/-- the ends of a call: what comes back, the parameters behind it -/
def fin (ds : List D) (ρ : Env) : List D := List.zipWith (fun d x => if d.imm = true then d else x) ds ρ
/-- slots that may be stored: not the parameters that came as changing things -/
def okP (ds : List D) (i : Nat) : Bool := match ds[i]? with
  | some d => d.imm
  | none => true
def O.fin (ds : List D) : O → R D
  | .nx ρ => .ok .non (Ev.fin ds ρ)
  | .rt d ρ => .ok d (Ev.fin ds ρ)
  | .rz x ρ => .rz x (Ev.fin ds ρ)
  | _ => .st
def callBy (p : Pg) (fuel : Nat) (call : Nat → List D → R D) (f : Nat) (ds : List D) : R D :=
  opt p.defs[f]? fun df => if ds.length = df.ps ∧ df.ps ≤ df.ns then
      (evSs (fun g => p.glb[g]?) call fuel df.body (okP ds) (ds ++ List.replicate (df.ns - df.ps) .no)).fin ds
    else .st
def run (p : Pg) (fuel : Nat) : Nat → Nat → List D → R D
  | 0, _, _ => .st
  | n + 1, f, ds => callBy p fuel (run p fuel n) f ds
end Ev
end

section
set_option Elab.async false
set_option linter.all false
set_option maxRecDepth 100000
/-! EvB1: values with their places: what the evaluator's data are in the machine. -/
namespace Ev
open PySem L2

/-- data with the addresses of their objects -/
inductive A where
  | no | non | bl (b : Bool) | int (i : Int) | str (s : Str)
  | tup (a : Addr) (xs : List A) | lst (a : Addr) (xs : List A) | rol (a : Addr) (xs : List A) | kol (a : Addr) (xs : List A)
  deriving Inhabited
def A.val : A → V
  | .no => .non
  | .non => .non
  | .bl b => .bl b
  | .int i => .int i
  | .str s => .str s
  | .tup a _ => .ref a
  | .lst a _ => .ref a
  | .rol a _ => .ref a
  | .kol a _ => .ref a
mutual
def A.er : A → D
  | .no => .no
  | .non => .non
  | .bl b => .bl b
  | .int i => .int i
  | .str s => .str s
  | .tup _ xs => .tup (erL xs)
  | .lst _ xs => .lst (erL xs)
  | .rol _ xs => .rol false (erL xs)
  | .kol _ xs => .rol true (erL xs)
def erL : List A → List D
  | [] => []
  | x :: xs => x.er :: erL xs
end
mutual
/-- the places that it owns (true), that it wants to stand still (false) -/
def A.foot : A → List (Bool × Addr)
  | .tup _ xs => footL xs
  | .lst a xs => (true, a) :: footL xs
  | .rol a _ => [(false, a)]
  | .no | .non | .bl _ | .int _ | .str _ | .kol _ _ => []
def footL : List A → List (Bool × Addr)
  | [] => []
  | x :: xs => x.foot ++ footL xs
end
/-- a list of the module's own -/
def KLst (K : PySem.W.Frag) (a : Addr) (xs : List V) : Prop :=
  ∃ (o : Obj) (its : Array Value) (n : Nat), K.lookup a = some o ∧ o.cls = .type "list" ∧ o.dict = none ∧ o.data = .seq its n ∧ its.size ≤ sizeLine ∧ Vals xs its.toList
mutual
def A.ok (K : PySem.W.Frag) (H : Hp) : A → Prop
  | .str s => PySem.PyData.strOk s = true
  | .tup a xs => SqT K H a (xs.map A.val) ∧ xs.length ≤ line ∧ okL K H xs
  | .lst a xs => H a = some (.lst (xs.map A.val)) ∧ xs.length ≤ line ∧ okL K H xs
  | .rol a xs => Rd H a (.lst (xs.map A.val)) ∧ xs.length ≤ line ∧ okL K H xs ∧ D.immL (erL xs) = true
  | .kol a xs => KLst K a (xs.map A.val) ∧ xs.length ≤ line ∧ okL K H xs ∧ D.immL (erL xs) = true
  | .no | .non | .bl _ | .int _ => True
def okL (K : PySem.W.Frag) (H : Hp) : List A → Prop
  | [] => True
  | x :: xs => x.ok K H ∧ okL K H xs
end
theorem erL_map (xs : List A) : erL xs = xs.map A.er := by
  induction xs with
  | nil => rfl
  | cons x xs ih => rw [erL, ih]; rfl
theorem erL_length (xs : List A) : (erL xs).length = xs.length := by rw [erL_map, List.length_map]
theorem okL_iff {K : PySem.W.Frag} {H : Hp} {xs : List A} : okL K H xs ↔ ∀ x ∈ xs, x.ok K H := by
  induction xs with
  | nil => simp [okL]
  | cons x xs ih => simp [okL, ih]
theorem footL_append (xs ys : List A) : footL (xs ++ ys) = footL xs ++ footL ys := by
  induction xs with
  | nil => rfl
  | cons x xs ih => simp [footL, ih]
theorem okL_append {K : PySem.W.Frag} {H : Hp} {xs ys : List A} : okL K H (xs ++ ys) ↔ okL K H xs ∧ okL K H ys := by
  simp only [okL_iff, List.mem_append]
  constructor
  · exact fun h => ⟨fun x hx => h x (.inl hx), fun x hx => h x (.inr hx)⟩
  · rintro ⟨h1, h2⟩ x (hx | hx)
    · exact h1 x hx
    · exact h2 x hx
theorem mem_footL {p : Bool × Addr} {xs : List A} : p ∈ footL xs ↔ ∃ x ∈ xs, p ∈ x.foot := by
  induction xs with
  | nil => simp [footL]
  | cons x xs ih => simp [footL, ih]
/-- what may be written -/
def wrL (Γ : List A) : List Addr := (footL Γ).filterMap fun p => if p.1 = true then some p.2 else none
theorem mem_wrL {a : Addr} {Γ : List A} : a ∈ wrL Γ ↔ (true, a) ∈ footL Γ := by
  unfold wrL
  rw [List.mem_filterMap]
  constructor
  · rintro ⟨⟨b, c⟩, m, e⟩
    cases b <;> simp at e
    subst e; exact m
  · exact fun m => ⟨_, m, by simp⟩

/-! ### data without changing parts own nothing -/
mutual
theorem imm_foot : ∀ (x : A), x.er.imm = true → x.foot = []
  | .no, h => rfl
  | .non, _ => rfl
  | .bl _, _ => rfl
  | .int _, _ => rfl
  | .str _, _ => rfl
  | .tup a xs, h => by
    have := imm_footL xs (by simpa [A.er, D.imm] using h)
    simpa [A.foot] using this
  | .lst a xs, h => by simp [A.er, D.imm] at h
  | .rol a xs, h => by simp [A.er, D.imm] at h
  | .kol a xs, h => by simp [A.er, D.imm] at h
theorem imm_footL : ∀ (xs : List A), D.immL (erL xs) = true → footL xs = []
  | [], _ => rfl
  | x :: xs, h => by
    rw [erL, D.immL, Bool.and_eq_true] at h
    have h1 := imm_foot x h.1
    have h2 := imm_footL xs h.2
    simp [footL, h1, h2]
end

/-! ### what changes -/
def Fr (W : List Addr) (H H' : Hp) : Prop := (∀ a o, H a = some o → a ∉ W → H' a = some o) ∧ ∀ a, H a ≠ none → H' a ≠ none
theorem Fr.refl {W : List Addr} {H : Hp} : Fr W H H := ⟨fun _ _ h _ => h, fun _ h => h⟩
theorem Fr.mono {W W' : List Addr} {H H' : Hp} (f : Fr W H H') (h : ∀ a ∈ W, a ∈ W') : Fr W' H H' := ⟨fun a o e n => f.1 a o e fun m => n (h a m), f.2⟩
theorem Fr.trans {W W' : List Addr} {H H1 H2 : Hp} (f : Fr W H H1) (g : Fr W' H1 H2) (h : ∀ a ∈ W', a ∈ W ∨ H a = none) : Fr W H H2 :=
  ⟨fun a o e n => g.1 a o (f.1 a o e n) fun m => (h a m).elim n fun z => (by rw [z] at e; cases e), fun a e => g.2 a (f.2 a e)⟩
theorem Fr.new {H : Hp} {p : Addr} {o : HO} (hp : H p = none) : Fr [] H (upd H p o) := by
  refine ⟨fun a u e _ => ?_, fun a e => ?_⟩
  · rw [upd_ne (ne_of_none e hp)]; exact e
  · by_cases h : a = p
    · subst h; rw [upd_same]; simp
    · rw [upd_ne h]; exact e
theorem Fr.put {H : Hp} {p : Addr} {o : HO} : Fr [p] H (upd H p o) := by
  refine ⟨fun a u e n => ?_, fun a e => ?_⟩
  · rw [upd_ne (by simpa using n)]; exact e
  · by_cases h : a = p
    · subst h; rw [upd_same]; simp
    · rw [upd_ne h]; exact e
/-- the places that may be written hold lists -/
def Wr (W : List Addr) (H : Hp) : Prop := ∀ a ∈ W, ∃ xs, H a = some (.lst xs)
section
variable {K : PySem.W.Frag} {H H' : Hp}
theorem SqT.fr {W : List Addr} {a : Addr} {vs : List V} (h : SqT K H a vs) (f : Fr W H H') (w : Wr W H) : SqT K H' a vs := by
  rcases h with (h | ⟨o, h⟩) | h
  · exact .inl (.inl (f.1 a _ h fun m => by obtain ⟨xs, e⟩ := w a m; rw [h] at e; cases e))
  · exact .inl (.inr ⟨o, f.1 a _ h fun m => by obtain ⟨xs, e⟩ := w a m; rw [h] at e; cases e⟩)
  · exact .inr h
mutual
theorem ok_fr {W : List Addr} (f : Fr W H H') (w : Wr W H) : ∀ (x : A), x.ok K H → (∀ p ∈ x.foot, p.2 ∉ W) → x.ok K H'
  | .no, _, _ => trivial
  | .non, _, _ => trivial
  | .bl _, _, _ => trivial
  | .int _, _, _ => trivial
  | .str _, h, _ => h
  | .tup a xs, h, d => by
    rw [A.ok] at h ⊢
    exact ⟨SqT.fr h.1 f w, h.2.1, ok_frL f w xs h.2.2 (by rw [A.foot] at d; exact d)⟩
  | .lst a xs, h, d => by
    rw [A.ok] at h ⊢
    rw [A.foot] at d
    exact ⟨f.1 a _ h.1 (d (true, a) List.mem_cons_self), h.2.1, ok_frL f w xs h.2.2 fun b m => d b (List.mem_cons_of_mem _ m)⟩
  | .rol a xs, h, d => by
    rw [A.ok] at h ⊢
    have na : a ∉ W := d (false, a) (by simp [A.foot])
    have i := imm_footL xs h.2.2.2
    refine ⟨?_, h.2.1, ok_frL f w xs h.2.2.1 (by simp [i]), h.2.2.2⟩
    rcases h.1 with h1 | ⟨o, h1⟩
    · exact .inl (f.1 a _ h1 na)
    · exact .inr ⟨o, f.1 a _ h1 na⟩
  | .kol a xs, h, d => by
    rw [A.ok] at h ⊢
    have i := imm_footL xs h.2.2.2
    exact ⟨h.1, h.2.1, ok_frL f w xs h.2.2.1 (by simp [i]), h.2.2.2⟩
theorem ok_frL {W : List Addr} (f : Fr W H H') (w : Wr W H) : ∀ (xs : List A), okL K H xs → (∀ p ∈ footL xs, p.2 ∉ W) → okL K H' xs
  | [], _, _ => trivial
  | x :: xs, h, d => by
    rw [okL] at h ⊢
    rw [footL] at d
    exact ⟨ok_fr f w x h.1 fun a m => d a (List.mem_append_left _ m), ok_frL f w xs h.2 fun a m => d a (List.mem_append_right _ m)⟩
end
theorem ok_grow (f : Fr [] H H') {x : A} (h : x.ok K H) : x.ok K H' := ok_fr f (by intro a m; cases m) x h (by simp)
theorem okL_grow (f : Fr [] H H') {xs : List A} (h : okL K H xs) : okL K H' xs := ok_frL f (by intro a m; cases m) xs h (by simp)
mutual
/-- what is owned is there; what may be written holds a list -/
theorem foot_at : ∀ (x : A), x.ok K H → ∀ p ∈ x.foot, H p.2 ≠ none ∧ (p.1 = true → ∃ xs, H p.2 = some (.lst xs))
  | .no, _, a, m => by simp [A.foot] at m
  | .non, _, a, m => by simp [A.foot] at m
  | .bl _, _, a, m => by simp [A.foot] at m
  | .int _, _, a, m => by simp [A.foot] at m
  | .str _, _, a, m => by simp [A.foot] at m
  | .kol _ _, _, a, m => by simp [A.foot] at m
  | .rol b xs, h, a, m => by
    rw [A.ok] at h
    have e : a = (false, b) := by simpa [A.foot] using m
    subst e
    refine ⟨?_, fun z => by cases z⟩
    show H b ≠ none
    rcases h.1 with h1 | ⟨o, h1⟩ <;> rw [h1] <;> simp
  | .tup b xs, h, a, m => by
    rw [A.ok] at h
    exact footL_at xs h.2.2 a (by simpa [A.foot] using m)
  | .lst b xs, h, a, m => by
    rw [A.ok] at h
    rw [A.foot] at m
    rcases List.mem_cons.mp m with e | m
    · subst e
      exact ⟨by show H b ≠ none; rw [h.1]; simp, fun _ => ⟨_, h.1⟩⟩
    · exact footL_at xs h.2.2 a m
theorem footL_at : ∀ (xs : List A), okL K H xs → ∀ p ∈ footL xs, H p.2 ≠ none ∧ (p.1 = true → ∃ xs, H p.2 = some (.lst xs))
  | [], _, a, m => by simp [footL] at m
  | x :: xs, h, a, m => by
    rw [okL] at h
    rw [footL] at m
    rcases List.mem_append.mp m with m | m
    · exact foot_at x h.1 a m
    · exact footL_at xs h.2 a m
end
end

/-! ### values that own their parts, each part once -/
structure Good (K : PySem.W.Frag) (H : Hp) (Γ : List A) : Prop where
  ok : okL K H Γ
  nd : ((footL Γ).map (·.2)).Nodup
theorem Good.wr {K : PySem.W.Frag} {H : Hp} {Γ : List A} (g : Good K H Γ) : Wr (wrL Γ) H := fun a m => (footL_at Γ g.ok _ (mem_wrL.mp m)).2 rfl
structure Stp (K : PySem.W.Frag) (W : List Addr) (Γ : List A) (H : Hp) (Γ' : List A) (H' : Hp) : Prop where
  good : Good K H' Γ'
  fr : Fr W H H'
  ft : ∀ p ∈ footL Γ', p ∈ footL Γ ∨ H p.2 = none
section
variable {K : PySem.W.Frag} {W W' : List Addr} {Γ Γ' Γ'' Δ : List A} {H H' H'' : Hp}
theorem Stp.refl (g : Good K H Γ) : Stp K W Γ H Γ H := ⟨g, .refl, fun _ m => .inl m⟩
theorem Stp.mono (s : Stp K W Γ H Γ' H') (h : ∀ a ∈ W, a ∈ W') : Stp K W' Γ H Γ' H' := ⟨s.good, s.fr.mono h, s.ft⟩
theorem Stp.wsub (s : Stp K W Γ H Γ' H') : ∀ a ∈ wrL Γ', a ∈ wrL Γ ∨ H a = none := fun a m => (s.ft _ (mem_wrL.mp m)).imp mem_wrL.mpr id
theorem Stp.trans (s : Stp K W Γ H Γ' H') (t : Stp K W' Γ' H' Γ'' H'') (h : ∀ a ∈ W', a ∈ W ∨ H a = none) : Stp K W Γ H Γ'' H'' where
  good := t.good
  fr := s.fr.trans t.fr h
  ft := fun p m => by
    rcases t.ft p m with q | q
    · exact s.ft p q
    · cases e : H p.2 with
      | none => exact .inr rfl
      | some o => exact absurd q (s.fr.2 p.2 (by rw [e]; simp))
/-- what is not touched stays beside -/
theorem Stp.frame (g : Good K H (Δ ++ Γ)) (s : Stp K W Γ H Γ' H') (hw : ∀ a ∈ W, a ∈ wrL Γ) : Stp K W (Δ ++ Γ) H (Δ ++ Γ') H' := by
  have go := okL_append.mp g.ok
  have gn := g.nd
  rw [footL_append, List.map_append, List.nodup_append] at gn
  have wr : Wr W H := fun a m => (footL_at Γ go.2 _ (mem_wrL.mp (hw a m))).2 rfl
  have dW : ∀ p ∈ footL Δ, p.2 ∉ W := fun p m n => gn.2.2 p.2 (List.mem_map_of_mem m) p.2 (List.mem_map.mpr ⟨(true, p.2), mem_wrL.mp (hw _ n), rfl⟩) rfl
  refine ⟨⟨okL_append.mpr ⟨ok_frL s.fr wr Δ go.1 dW, s.good.ok⟩, ?_⟩, s.fr, ?_⟩
  · rw [footL_append, List.map_append, List.nodup_append]
    refine ⟨gn.1, s.good.nd, fun a m b n e => ?_⟩
    subst e
    obtain ⟨p, mp, rfl⟩ := List.mem_map.mp m
    obtain ⟨q, mq, e⟩ := List.mem_map.mp n
    rcases s.ft q mq with z | z
    · exact gn.2.2 p.2 m p.2 (List.mem_map.mpr ⟨q, z, e⟩) rfl
    · rw [e] at z
      exact (footL_at Δ go.1 p mp).1 z
  · intro a m
    rw [footL_append] at m ⊢
    rcases List.mem_append.mp m with m | m
    · exact .inl (List.mem_append_left _ m)
    · exact (s.ft a m).imp (List.mem_append_right _) id
/-- the same parts in another order, or fewer -/
theorem Good.sub (g : Good K H Γ) (ho : okL K H Γ') (hf : ∃ l, (footL Γ).Perm (footL Γ' ++ l)) : Good K H Γ' := by
  obtain ⟨l, p⟩ := hf
  have n := (p.map (·.2)).nodup_iff.mp g.nd
  rw [List.map_append] at n
  exact ⟨ho, (List.nodup_append.mp n).1⟩
theorem Stp.sub (s : Stp K W Γ H Γ' H') (ho : okL K H' Γ'') (hf : ∃ l, (footL Γ').Perm (footL Γ'' ++ l)) : Stp K W Γ H Γ'' H' :=
  ⟨s.good.sub ho hf, s.fr, fun a m => s.ft a (by obtain ⟨l, p⟩ := hf; exact p.mem_iff.mpr (List.mem_append_left _ m))⟩
theorem Good.tail {x : A} (g : Good K H (x :: Γ)) : Good K H Γ :=
  g.sub g.ok.2 ⟨x.foot, by rw [footL]; exact List.perm_append_comm⟩
theorem Good.right (g : Good K H (Δ ++ Γ)) : Good K H Γ :=
  g.sub (okL_append.mp g.ok).2 ⟨footL Δ, by rw [footL_append]; exact List.perm_append_comm⟩
theorem Stp.right (s : Stp K W Γ H (Δ ++ Γ') H') : Stp K W Γ H Γ' H' :=
  s.sub (okL_append.mp s.good.ok).2 ⟨footL Δ, by rw [footL_append]; exact List.perm_append_comm⟩
/-- a new value beside: what it owns is new -/
theorem Good.new {w : A} (g : Good K H Γ) (f : Fr [] H H') (ho : w.ok K H') (hn : (w.foot.map (·.2)).Nodup) (hf : ∀ p ∈ w.foot, H p.2 = none) : Good K H' (w :: Γ) := by
  refine ⟨⟨ho, okL_grow f g.ok⟩, ?_⟩
  rw [footL, List.map_append, List.nodup_append]
  refine ⟨hn, g.nd, fun a m b n e => ?_⟩
  subst e
  obtain ⟨p, mp, rfl⟩ := List.mem_map.mp m
  obtain ⟨q, mq, e⟩ := List.mem_map.mp n
  exact (footL_at Γ g.ok q mq).1 (by rw [e]; exact hf p mp)
theorem Stp.new {w : A} (s : Stp K W Γ H Γ' H') (f : Fr [] H' H'') (ho : w.ok K H'') (hn : (w.foot.map (·.2)).Nodup) (hf : ∀ p ∈ w.foot, H' p.2 = none) : Stp K W Γ H (w :: Γ') H'' :=
  s.trans (W' := []) ⟨s.good.new f ho hn hf, f, fun a m => by
    rw [footL] at m
    exact (List.mem_append.mp m).elim (fun m => .inr (hf a m)) .inl⟩ (by simp)
/-- a value that owns nothing beside -/
theorem Good.imm {w : A} (g : Good K H Γ) (ho : w.ok K H) (hi : w.er.imm = true) : Good K H (w :: Γ) :=
  g.new .refl ho (by rw [imm_foot w hi]; exact List.nodup_nil) (by rw [imm_foot w hi]; simp)
theorem Stp.imm {w : A} (s : Stp K W Γ H Γ' H') (ho : w.ok K H') (hi : w.er.imm = true) : Stp K W Γ H (w :: Γ') H' :=
  s.new .refl ho (by rw [imm_foot w hi]; exact List.nodup_nil) (by rw [imm_foot w hi]; simp)
end
end Ev
end

section
set_option Elab.async false
set_option linter.all false
set_option maxRecDepth 100000
/-! EvB2: the evaluator's answers as readings of the hand layer. -/
namespace Ev
open PySem L2

def R.sat {α : Type} (r : R α) (P : α → Env → Prop) (E : Ex → Env → Prop) : Prop := match r with
  | .ok a ρ => P a ρ
  | .rz x ρ => E x ρ
  | .st => False
section
variable {α β : Type} {r : R α} {f : α → Env → R β} {P Q : β → Env → Prop} {E E' : Ex → Env → Prop}
theorem sat_bind : (r.bind f).sat P E ↔ r.sat (fun a ρ => (f a ρ).sat P E) E := by
  cases r <;> rfl
theorem sat_mono {r : R β} (h : r.sat P E) (hP : ∀ a ρ, P a ρ → Q a ρ) (hE : ∀ x ρ, E x ρ → E' x ρ) : r.sat Q E' := by
  cases r with
  | ok a ρ => exact hP _ _ h
  | rz x ρ => exact hE _ _ h
  | st => exact h
theorem sat_opt {o : Option α} {g : α → R β} : (opt o g).sat P E ↔ ∃ a, o = some a ∧ (g a).sat P E := by
  cases o with
  | none => simp [opt, R.sat]
  | some a => simp [opt]
theorem sat_ifOk {b : Bool} {r : R β} : (ifOk b r).sat P E ↔ b = true ∧ r.sat P E := by
  cases b <;> simp [ifOk, R.sat]
end

/-- slots and values -/
structure Mt (σ : St) (α : List A) : Prop where
  len : σ.length = α.length
  at_ : ∀ (i : Nat) (x : A), α[i]? = some x → x = A.no ∨ σ[i]? = some (some x.val)
def Wof (q : Bool) (α : List A) : List Addr := if q = true then [] else wrL α
theorem Wof_sub {q : Bool} {α : List A} : ∀ a ∈ Wof q α, a ∈ wrL α := by
  intro a m
  unfold Wof at m
  split at m
  · cases m
  · exact m
theorem rd_er {α : List A} {i : Nat} {d : D} (h : rd (erL α) i = some d) : ∃ x, α[i]? = some x ∧ x.er = d ∧ x ≠ .no := by
  unfold rd at h
  rw [erL_map, List.getElem?_map] at h
  cases e : α[i]? with
  | none => rw [e] at h; simp at h
  | some x =>
    rw [e] at h
    cases x <;> simp [A.er] at h <;> exact ⟨_, rfl, by simpa [A.er] using h, by simp⟩

/-- what the code stands in: an exception that leaves is told by XR, wished by W -/
abbrev XRel := Ex → Value → Option Addr → Hp → Prop
section
variable (K : PySem.W.Frag) (gl : Nat → Option D) (call : Nat → List D → R D) (XR : XRel) (W : WX)
def EX (σ : St) (α : List A) (H : Hp) (x : Ex) (ρ : Env) : Prop := ∀ cls dd α' H', XR x cls dd H' → erL α' = ρ → Mt σ α' → Stp K (wrL α) α H α' H' → W cls dd σ H'
def own (e : E) (x : A) : List A := if e.temp = true then [x] else []
def tV (e : E) : TE := fun σ H Q => ∃ α, Mt σ α ∧ Good K H α ∧
  (evM gl call e .v (erL α)).sat (fun d ρ => ∀ x α' H', x.er = d → erL α' = ρ → Mt σ α' → Stp K (Wof e.quiet α) α H (x :: α') H' → Q x.val H') (EX K XR W σ α H)
def tB (e : E) : TE := fun σ H Q => ∃ α, Mt σ α ∧ Good K H α ∧
  (evM gl call e .b (erL α)).sat (fun d ρ => ∀ x α' H', x.er = d → erL α' = ρ → Mt σ α' → Stp K (Wof e.quiet α) α H (own e x ++ α') H' → x.ok K H' → Q x.val H') (EX K XR W σ α H)
def tT (e : E) : TT := fun σ H Q => ∃ α, Mt σ α ∧ Good K H α ∧
  (evM gl call e .t (erL α)).sat (fun d ρ => ∀ α' H', erL α' = ρ → Mt σ α' → Stp K (Wof e.quiet α) α H α' H' → Q d.isT H') (EX K XR W σ α H)
end
structure SE (X : Cx) (gl : Nat → Option D) (call : Nat → List D → R D) (XR : XRel) (W : WX) (e : E) (ex : Expr) : Prop where
  v : PE X ex (tV X.K gl call XR W e)
  b : PE X ex (tB X.K gl call XR W e)
  t : e.testable = true → PT X ex (tT X.K gl call XR W e)

theorem impE {X : Cx} {ex : Expr} {t t' : TE} (h : PE X ex t) (f : ∀ σ H Q, t' σ H Q → t σ H Q) : PE X ex t' :=
  ⟨fun pins s σ H Q I q => h.run pins s σ H Q I (f σ H Q q)⟩
theorem impT {X : Cx} {ex : Expr} {t t' : TT} (h : PT X ex t) (f : ∀ σ H Q, t' σ H Q → t σ H Q) : PT X ex t' :=
  ⟨fun pins s σ H Q I q => h.run pins s σ H Q I (f σ H Q q)⟩
section
variable {K : PySem.W.Frag} {gl : Nat → Option D} {call : Nat → List D → R D} {XR : XRel} {W : WX} {σ : St} {α α1 α2 Γ : List A} {H H1 H2 : Hp}
theorem EX.step (h : ∀ x ρ, EX K XR W σ α H x ρ → EX K XR W σ α H x ρ) : True := trivial
theorem EX.on {q : Bool} (s : Stp K (Wof q α) α H α1 H1) {x : Ex} {ρ : Env} (h : EX K XR W σ α H x ρ) : EX K XR W σ α1 H1 x ρ :=
  fun cls dd α' H' r e m t => h cls dd α' H' r e m ((s.mono Wof_sub).trans t s.wsub)
theorem Stp.seq {qa qb : Bool} (s : Stp K (Wof qa α) α H α1 H1) (t : Stp K (Wof qb α1) α1 H1 Γ H2) : Stp K (Wof (qa && qb) α) α H Γ H2 := by
  refine (s.mono (W' := Wof (qa && qb) α) ?_).trans t ?_
  · intro a m
    unfold Wof at *
    cases qa <;> cases qb <;> simp_all
  · intro a m
    unfold Wof at *
    cases qb with
    | true => simp at m
    | false =>
      simp at m
      rw [Bool.and_false]
      exact s.wsub a m
/-- what was borrowed, or owned, is still there -/
theorem keep {a : E} {x : A} {q : Bool} {W1 : List Addr} {Γ2 : List A} (s1 : Stp K W1 α H (own a x ++ α1) H1) (hx : x.ok K H1) (s2 : Stp K (Wof q α1) α1 H1 Γ2 H2) (n : needs x.er a q = true) : x.ok K H2 := by
  unfold needs at n
  simp only [Bool.or_eq_true] at n
  rcases n with (n | n) | n
  · exact ok_fr s2.fr (fun a m => s1.good.right.wr a (Wof_sub a m)) x hx (by rw [imm_foot x n]; simp)
  · have g := s1.good
    unfold own at g
    rw [if_pos n] at g
    exact (Stp.frame (Δ := [x]) g s2 Wof_sub).good.ok.1
  · unfold Wof at s2
    rw [if_pos n] at s2
    exact ok_grow s2.fr hx
theorem A.seqL {K : PySem.W.Frag} {H : Hp} {x : A} {a : Addr} {xs : List A} (h : x.ok K H) (e : x = .lst a xs ∨ x = .rol a xs ∨ x = .kol a xs) : x.val = .ref a ∧ SqL K H a (xs.map A.val) ∧ xs.length ≤ line ∧ okL K H xs := by
  rcases e with e | e | e <;> subst e <;> rw [A.ok] at h
  · exact ⟨rfl, SqL.of h.1, h.2.1, h.2.2⟩
  · exact ⟨rfl, .inl h.1, h.2.1, h.2.2.1⟩
  · exact ⟨rfl, .inr h.1, h.2.1, h.2.2.1⟩
theorem line_eq : line = sizeLine := by rw [sizeLine_eq]; rfl
theorem erL_isEmpty (xs : List A) : (erL xs).isEmpty = xs.isEmpty := by cases xs <;> rfl
theorem map_isEmpty (xs : List A) : (xs.map A.val).isEmpty = xs.isEmpty := by cases xs <;> rfl
theorem truth_ok {K : PySem.W.Frag} {H : Hp} {x : A} {k : Bool} (h : x.er.truth = some k) (ok : x.ok K H) : TruV K x.val H k := by
  cases x with
  | no => simp [A.er, D.truth] at h
  | non => simp [A.er, D.truth] at h; simp [A.val, TruV, h]
  | bl b => simp [A.er, D.truth] at h; simp [A.val, TruV, h]
  | int i => simp only [A.er, D.truth, Option.some.injEq] at h; simp only [A.val, TruV, h]
  | str s =>
    simp only [A.er, D.truth] at h
    split at h
    · rename_i hl
      simp only [Option.some.injEq] at h
      refine ⟨by rw [← line_eq]; exact hl, ?_⟩
      rw [← h, Bool.eq_iff_iff]
      simp
    · cases h
  | tup a xs =>
    rw [A.ok] at ok
    simp only [A.er, D.truth, Option.some.injEq, erL_isEmpty] at h
    exact .inr (.inl ⟨_, ok.1, by rw [map_isEmpty, h]⟩)
  | lst a xs =>
    simp only [A.er, D.truth, Option.some.injEq, erL_isEmpty] at h
    exact .inl ⟨_, (A.seqL ok (.inl rfl)).2.1, by rw [map_isEmpty, h]⟩
  | rol a xs =>
    simp only [A.er, D.truth, Option.some.injEq, erL_isEmpty] at h
    exact .inl ⟨_, (A.seqL ok (.inr (.inl rfl))).2.1, by rw [map_isEmpty, h]⟩
  | kol a xs =>
    simp only [A.er, D.truth, Option.some.injEq, erL_isEmpty] at h
    exact .inl ⟨_, (A.seqL ok (.inr (.inr rfl))).2.1, by rw [map_isEmpty, h]⟩
theorem SE.temp {X : Cx} {e : E} {ex : Expr} (h : PE X ex (tV X.K gl call XR W e)) (ht : e.temp = true) (hb : ∀ ρ, evM gl call e .b ρ = evM gl call e .v ρ)
    (hm : ∀ ρ, evM gl call e .t ρ = Md.t.tr (evM gl call e .v ρ))
    (he : e.testable = true → ∀ whole, isTrue ex X.env whole = (do let v ← whole; standAt ex.pos; holding [v] (truthy v))) : SE X gl call XR W e ex := by
  have hB : PE X ex (tB X.K gl call XR W e) := by
    refine impE h fun σ H Q q => ?_
    obtain ⟨α, m, g, q⟩ := q
    refine ⟨α, m, g, ?_⟩
    rw [hb] at q
    refine sat_mono q (fun d ρ q x α' H' e1 e2 m' s => ?_) fun _ _ z => z
    exact q x α' H' e1 e2 m' (by unfold own; rw [if_pos ht]; exact s) s.good.ok.1
  refine ⟨h, hB, fun te => impT (pt_truth h (he te)) fun σ H Q q => ?_⟩
  obtain ⟨α, m, g, q⟩ := q
  refine ⟨α, m, g, ?_⟩
  rw [hm] at q
  refine sat_mono (sat_bind.mp q) (fun d ρ q x α' H' e1 e2 m' s => ?_) fun _ _ z => z
  obtain ⟨k, ek, q⟩ := sat_opt.mp q
  refine ⟨k, truth_ok (by rw [e1]; exact ek) s.good.ok.1, ?_⟩
  exact q α' H' e2 m' (Stp.right (Δ := [x]) s)
end
end Ev
end

section
set_option Elab.async false
set_option linter.all false
set_option maxRecDepth 100000
/-! EvB3: operators. -/
namespace Ev
open PySem L2 PyProof.Rows

theorem er_no {x : A} (h : x.er = .no) : x = .no := by cases x <;> simp [A.er] at h <;> rfl
theorem er_non {x : A} (h : x.er = .non) : x = .non := by cases x <;> simp [A.er] at h <;> rfl
theorem er_bl {x : A} {b : Bool} (h : x.er = .bl b) : x = .bl b := by cases x <;> simp [A.er] at h; subst h; rfl
theorem er_int {x : A} {i : Int} (h : x.er = .int i) : x = .int i := by cases x <;> simp [A.er] at h; subst h; rfl
theorem er_str {x : A} {s : Str} (h : x.er = .str s) : x = .str s := by cases x <;> simp [A.er] at h; subst h; rfl
theorem er_tup {x : A} {ds : List D} (h : x.er = .tup ds) : ∃ a xs, x = .tup a xs ∧ erL xs = ds := by cases x <;> simp [A.er] at h; exact ⟨_, _, rfl, h⟩
theorem er_lst {x : A} {ds : List D} (h : x.er = .lst ds) : ∃ a xs, x = .lst a xs ∧ erL xs = ds := by cases x <;> simp [A.er] at h; exact ⟨_, _, rfl, h⟩
theorem er_rol {x : A} {k : Bool} {ds : List D} (h : x.er = .rol k ds) : ∃ a xs, (x = .rol a xs ∨ x = .kol a xs) ∧ erL xs = ds := by
  cases x <;> simp [A.er] at h
  · exact ⟨_, _, .inl rfl, h.2⟩
  · exact ⟨_, _, .inr rfl, h.2⟩

theorem tuple_mulOne (l : Addr) (items : Array Value) (n : Nat) (sl : Array (Option Value)) (dd : Option Addr) (u : Tok) :
    Meets (Builtin.«tuple.__mul__» ⟨[.ref l, .int 1 u], []⟩) (fun _ R s => s.heap.get? l = some { cls := .type "tuple", dict := dd, data := .seq items n, slots := sl } ∧
      R (.ok (.ret (Value.ref l))) s) :=
  .of_wp fun prog w A R s h => by
    obtain ⟨hp, g, d, tk, os⟩ := s
    obtain ⟨hl, h⟩ := h
    have f1 := AutoSeq1.idx_int
    wp_walk using wpAny_loadPart' hl
    exact ⟨_, rfl, h⟩
/-- t * 1 is t -/
def rRep1 (K : PySem.W.Frag) : R2 := fun x y H Q => ∃ l xs, x = .ref l ∧ y = .int 1 ∧ SqT K H l xs ∧ Q (.ref l) H
theorem op_rep1 {X : Cx} : OpR X (binaryOp .Mult) (rRep1 X.K) := by
  intro pins s σ H x y v u Q I rx ry h
  obtain ⟨l, xs, rfl, rfl, hT, q⟩ := h
  cases rx
  obtain ⟨t, rfl⟩ := ry
  obtain ⟨its, r, ⟨⟨cls, dd, data, sl⟩, ho, hc, n, hd⟩, hs⟩ := I.tuple hT
  simp only at hc hd
  subst hc hd
  refine wpAny_binaryOp_repeat_ref (T := "tuple") (U := "int") (by decide) ⟨_, ho, rfl⟩ (fun s' => typeIs_int s' 1 t) noFill_tuple_mul F.fills_int_mul F.slot_int_rmul repeat_tuple F.slot_int_index.lookup
    (call_meets F.slot_int_rmul (typeIs_int s 1 t) F.entry_int_rmul (F.args_int_rmul_2 _ _) (int_rmul_tuple 1 t l its.toArray n dd sl)
      ⟨ho, rfl, ⟨_, ho, rfl⟩, call_meets F.slot_tuple_mul ⟨_, ho, rfl⟩ F.entry_tuple_mul (F.args_tuple_mul_2 _ _) (tuple_mulOne l its.toArray n sl dd t) ⟨ho, ?_⟩⟩)
  exact ⟨.ref l, H, I, rfl, q⟩
/-- what a rule gives: a new value, or one that owns nothing -/
def Out (K : PySem.W.Frag) (H : Hp) (z : D) (Q : VK) : Prop :=
  ∀ (w : A) (H' : Hp), w.er = z → Fr [] H H' → w.ok K H' → (w.foot.map (·.2)).Nodup → (∀ p ∈ w.foot, H p.2 = none) → Q w.val H'
section
variable {K : PySem.W.Frag} {H : Hp} {z : D} {Q : VK}
theorem Out.int {i : Int} (q : Out K H (.int i) Q) : Q (.int i) H := q (.int i) H rfl .refl trivial List.nodup_nil (by simp [A.foot])
theorem Out.bl {b : Bool} (q : Out K H (.bl b) Q) : Q (.bl b) H := q (.bl b) H rfl .refl trivial List.nodup_nil (by simp [A.foot])
theorem Out.non (q : Out K H .non Q) : Q .non H := q .non H rfl .refl trivial List.nodup_nil (by simp [A.foot])
theorem Out.str {s : Str} (q : Out K H (.str s) Q) (h : PySem.PyData.strOk s = true) : Q (.str s) H := q (.str s) H rfl .refl h List.nodup_nil (by simp [A.foot])
theorem Out.imm {x : A} (q : Out K H x.er Q) (h : x.ok K H) (hi : x.er.imm = true) : Q x.val H :=
  q x H rfl .refl h (by rw [imm_foot x hi]; exact List.nodup_nil) (by rw [imm_foot x hi]; simp)
theorem Out.tup {xs : List A} {p : Addr} (q : Out K H (.tup (erL xs)) Q) (hp : H p = none) (hi : D.immL (erL xs) = true) (ho : okL K H xs) (hl : xs.length ≤ line) : Q (.ref p) (upd H p (.tup (xs.map A.val))) := by
  have i := imm_footL xs hi
  exact q (.tup p xs) _ rfl (.new hp) ⟨SqT.of upd_same, hl, okL_grow (.new hp) ho⟩ (by simp [A.foot, i]) (by simp [A.foot, i])
theorem Out.lst {xs : List A} {p : Addr} (q : Out K H (.lst (erL xs)) Q) (hp : H p = none) (hi : D.immL (erL xs) = true) (ho : okL K H xs) (hl : xs.length ≤ line) : Q (.ref p) (upd H p (.lst (xs.map A.val))) := by
  have i := imm_footL xs hi
  exact q (.lst p xs) _ rfl (.new hp) ⟨upd_same, hl, okL_grow (.new hp) ho⟩ (by simp [A.foot, i]) (by simp [A.foot, i, hp])
end
theorem erL_append (xs ys : List A) : erL (xs ++ ys) = erL xs ++ erL ys := by simp [erL_map]
theorem immL_append (xs ys : List D) : D.immL (xs ++ ys) = (D.immL xs && D.immL ys) := by
  induction xs with
  | nil => simp [D.immL]
  | cons x xs ih => simp [D.immL, ih, Bool.and_assoc]
theorem immL_iff {xs : List D} : D.immL xs = true ↔ ∀ x ∈ xs, x.imm = true := by
  induction xs with
  | nil => simp [D.immL]
  | cons x xs ih => simp [D.immL, ih]
theorem strOk_append {x y : Str} (h1 : PySem.PyData.strOk x = true) (h2 : PySem.PyData.strOk y = true) : PySem.PyData.strOk (x ++ y) = true := by
  obtain ⟨x⟩ := x
  obtain ⟨y⟩ := y
  show ((x ++ y).all _) = true
  rw [Array.all_append, Bool.and_eq_true]
  exact ⟨h1, h2⟩
def Op2.syn : Op2 → Operator
  | .add => .Add | .sub => .Sub | .mul => .Mult | .fdiv => .FloorDiv | .mod => .Mod | .pow => .Pow
  | .shl => .LShift | .shr => .RShift | .band => .BitAnd | .bor => .BitOr | .bxor => .BitXor
def Op2.r (K : PySem.W.Frag) : Op2 → R2
  | .add => fun x y H Q => (rI0 fun i j => .int (i + j)) x y H Q ∨ (fun x y H Q => ∃ i j, x = .str i ∧ y = .str j ∧ i.length + j.length ≤ sizeLine ∧ Q (.str (i ++ j)) H : R2) x y H Q ∨ rCatA K x y H Q ∨ rCat x y H Q
  | .sub => rI0 fun i j => .int (i - j)
  | .mul => fun x y H Q => (rI CMul fun i j => .int (i * j)) x y H Q ∨ rRepT K x y H Q ∨ rRep x y H Q ∨ rRep1 K x y H Q
  | .fdiv => rI CDivN fun i j => .int (i.fdiv j)
  | .mod => rI (fun _ j => j ≠ 0) fun i j => .int (i.fmod j)
  | .pow => rI CPow fun i j => .int (i ^ j.toNat)
  | .shl => rI CPow fun i j => .int (i * 2 ^ j.toNat)
  | .shr => rI (fun _ j => 0 ≤ j) fun i j => .int (i / 2 ^ j.toNat)
  | _ => fun _ _ _ _ => False
theorem Op2.is {X : Cx} (o : Op2) : OpR X (binaryOp o.syn) (o.r X.K) := by
  cases o
  · exact op_add.or (op_add_str.or (op_catA.or op_cat))
  · exact op_sub
  · exact op_mul.or (op_repT.or (op_rep.or op_rep1))
  · exact op_fdivN
  · exact op_modN
  · exact op_pow
  · exact op_shl
  · exact op_shr
  all_goals exact fun _ _ _ _ _ _ _ _ _ _ _ _ h => h.elim
theorem map_rep {α β : Type} (f : α → β) (n : Nat) (xs : List α) : (List.replicate n xs).flatten.map f = (List.replicate n (xs.map f)).flatten := by
  induction n with
  | zero => rfl
  | succ n ih => simp [List.replicate_succ, ih]
theorem rep_one {α : Type} (n : Nat) (x : α) : (List.replicate n [x]).flatten = List.replicate n x := by
  induction n with
  | zero => rfl
  | succ n ih => simp [List.replicate_succ, ih]
theorem Op2.ok {K : PySem.W.Frag} {H : Hp} {z : D} {Q : VK} (o : Op2) {x y : A} (h : o.run x.er y.er = some z) (hx : x.ok K H) (hy : y.ok K H) (q : Out K H z Q) : o.r K x.val y.val H Q := by
  unfold Op2.run at h
  split at h
  · rename_i e1 e2
    rw [er_int e1, er_int e2]
    cases h
    exact .inl ⟨_, _, rfl, rfl, q.int⟩
  · rename_i e1 e2
    have hx' := hx
    have hy' := hy
    rw [er_str e1] at hx' ⊢
    rw [er_str e2] at hy' ⊢
    split at h
    · rename_i hl
      cases h
      exact .inr (.inl ⟨_, _, rfl, rfl, by rw [← line_eq]; exact hl, q.str (strOk_append hx' hy')⟩)
    · cases h
  · rename_i e1 e2
    obtain ⟨a, xs, rfl, rfl⟩ := er_tup e1
    obtain ⟨b, ys, rfl, rfl⟩ := er_tup e2
    split at h
    · rename_i hl
      cases h
      have hx' := hx
      have hy' := hy
      rw [A.ok] at hx' hy'
      rw [← erL_append] at q
      rw [erL_length, erL_length] at hl
      refine .inr (.inr (.inl ⟨a, b, _, _, rfl, rfl, hx'.1, hy'.1, by rw [List.length_map, List.length_map, ← line_eq]; exact hl.1, fun e => ?_, fun _ e => ?_, fun _ _ p hp => ?_⟩))
      · have e : xs = [] := List.map_eq_nil_iff.mp e
        subst e
        exact Out.imm (x := .tup b ys) q hy (by simp [A.er, D.imm, hl.2.2])
      · have e : ys = [] := List.map_eq_nil_iff.mp e
        subst e
        rw [List.append_nil] at q
        exact Out.imm (x := .tup a xs) q hx (by simp [A.er, D.imm, hl.2.1])
      · rw [← List.map_append]
        exact q.tup hp (by rw [erL_append, immL_append, hl.2.1, hl.2.2]; rfl) (okL_append.mpr ⟨hx'.2.2, hy'.2.2⟩) (by rw [List.length_append]; exact hl.1)
    · cases h
  · rename_i e1 e2
    obtain ⟨a, xs, rfl, rfl⟩ := er_lst e1
    obtain ⟨b, ys, rfl, rfl⟩ := er_lst e2
    split at h
    · rename_i hl
      cases h
      have hx' := hx
      have hy' := hy
      rw [A.ok] at hx' hy'
      rw [← erL_append] at q
      rw [erL_length, erL_length] at hl
      refine .inr (.inr (.inr ⟨a, b, _, _, rfl, rfl, hx'.1, hy'.1, by rw [List.length_map, List.length_map, ← line_eq]; exact hl.1, fun p hp => ?_⟩))
      rw [← List.map_append]
      exact q.lst hp (by rw [erL_append, immL_append, hl.2.1, hl.2.2]; rfl) (okL_append.mpr ⟨hx'.2.2, hy'.2.2⟩) (by rw [List.length_append]; exact hl.1)
    · cases h
  · rename_i e1 e2
    rw [er_int e1, er_int e2]
    cases h
    exact ⟨_, _, rfl, rfl, q.int⟩
  · rename_i e1 e2
    rw [er_int e1, er_int e2]
    split at h
    · rename_i hl
      cases h
      refine .inl ⟨_, _, rfl, rfl, ?_, q.int⟩
      unfold CMul
      omega
    · cases h
  · rename_i d k e1 e2
    obtain ⟨a, xs, rfl, e⟩ := er_tup e1
    match xs, e with
    | [v], e =>
      have ev : v.er = d := by simpa [erL] using e
      subst ev
      rw [er_int e2]
      split at h
      · rename_i hl
        cases h
        have hx' := hx
        rw [A.ok] at hx'
        by_cases k1 : k = 1
        · subst k1
          exact .inr (.inr (.inr ⟨a, _, rfl, rfl, hx'.1, Out.imm (x := .tup a [v]) q hx (by simp [A.er, erL, D.imm, D.immL, hl.2.2])⟩))
        · refine .inr (.inl ⟨a, k, _, rfl, rfl, hx'.1, by simp, by omega, hl.2.1, by simp, fun p hp => ?_⟩)
          rw [List.map_cons, List.map_nil, rep_one]
          have e3 : List.replicate k.toNat v.er = erL (List.replicate k.toNat v) := by rw [erL_map, List.map_replicate]
          rw [e3] at q
          rw [← List.map_replicate]
          refine q.tup hp ?_ ?_ ?_
          · rw [← e3, immL_iff]
            intro x hx
            rw [List.eq_of_mem_replicate hx]
            exact hl.2.2
          · rw [okL_iff]
            intro x hx
            rw [List.eq_of_mem_replicate hx]
            exact hx'.2.2.1
          · rw [List.length_replicate]
            have : line = 16777216 := rfl
            omega
      · cases h
    | [], e => simp [erL] at e
    | _ :: _ :: _, e => simp [erL] at e
  · rename_i e1 e2
    obtain ⟨a, xs, rfl, rfl⟩ := er_lst e1
    rw [er_int e2]
    split at h
    · rename_i k hl
      cases h
      have hx' := hx
      rw [A.ok] at hx'
      rw [erL_length] at hl
      refine .inr (.inr (.inl ⟨a, _, _, rfl, rfl, hx'.1, by omega, by omega, by rw [List.length_map, ← line_eq]; exact hl.2.2.1, fun p hp => ?_⟩))
      rw [← map_rep]
      have e3 : (List.replicate k.toNat (erL xs)).flatten = erL (List.replicate k.toNat xs).flatten := by rw [erL_map, erL_map, map_rep]
      rw [e3] at q
      refine q.lst hp ?_ ?_ ?_
      · rw [← e3, immL_iff]
        intro x hx
        obtain ⟨l, m1, m2⟩ := List.mem_flatten.mp hx
        rw [List.eq_of_mem_replicate m1] at m2
        exact immL_iff.mp hl.2.2.2 x m2
      · rw [okL_iff]
        intro x hx
        obtain ⟨l, m1, m2⟩ := List.mem_flatten.mp hx
        rw [List.eq_of_mem_replicate m1] at m2
        exact okL_iff.mp hx'.2.2 x m2
      · rw [PyProof.Rows.lm_len_rep_flat, Nat.mul_comm]; exact hl.2.2.1
    · cases h
  · rename_i e1 e2
    rw [er_int e1, er_int e2]
    split at h
    · rename_i hl
      cases h
      exact ⟨_, _, rfl, rfl, hl, q.int⟩
    · cases h
  · rename_i e1 e2
    rw [er_int e1, er_int e2]
    split at h
    · rename_i hl
      cases h
      exact ⟨_, _, rfl, rfl, hl, q.int⟩
    · cases h
  · rename_i e1 e2
    rw [er_int e1, er_int e2]
    split at h
    · rename_i hl
      cases h
      exact ⟨_, _, rfl, rfl, hl, q.int⟩
    · cases h
  · rename_i e1 e2
    rw [er_int e1, er_int e2]
    split at h
    · rename_i hl
      cases h
      exact ⟨_, _, rfl, rfl, hl, q.int⟩
    · cases h
  · rename_i e1 e2
    rw [er_int e1, er_int e2]
    split at h
    · rename_i hl
      cases h
      exact ⟨_, _, rfl, rfl, hl, q.int⟩
    · cases h
  · cases h
end Ev
end

section
set_option Elab.async false
set_option linter.all false
set_option maxRecDepth 100000
/-! EvB4: comparisons, isinstance, subscripts, slices. -/
namespace Ev
open PySem L2 PyProof.Rows
mutual
/-- data as the library reads them -/
def D.pd : D → PyData
  | .non => .none
  | .bl b => .bool b
  | .int i => .int i
  | .str s => .str s
  | .tup xs => .tuple (D.pdL xs)
  | .lst xs => .list (D.pdL xs)
  | .rol _ xs => .list (D.pdL xs)
  | .no => .none
  | .dct _ _ => .none
def D.pdL : List D → List PyData
  | [] => []
  | x :: xs => x.pd :: D.pdL xs
end
mutual
theorem pd_dep : ∀ d : D, d.pd.depth = d.dep
  | .non => by simp [D.pd, D.dep, PyData.depth]
  | .bl b => by simp [D.pd, D.dep, PyData.depth]
  | .int i => by simp [D.pd, D.dep, PyData.depth]
  | .str s => by simp [D.pd, D.dep, PyData.depth]
  | .tup xs => by simp [D.pd, D.dep, PyData.depth, pd_depL xs]
  | .lst xs => by simp [D.pd, D.dep, PyData.depth, pd_depL xs]
  | .rol _ xs => by simp [D.pd, D.dep, PyData.depth, pd_depL xs]
  | .no => by simp [D.pd, D.dep, PyData.depth]
  | .dct _ _ => by simp [D.pd, D.dep, PyData.depth]
theorem pd_depL : ∀ ds : List D, PyData.depthAll (D.pdL ds) = D.depL ds
  | [] => by simp [D.pdL, D.depL, PyData.depthAll]
  | d :: ds => by simp [D.pdL, D.depL, PyData.depthAll, pd_dep d, pd_depL ds]
end
mutual
theorem pd_eqv : ∀ d e : D, d.cmpb = true → e.cmpb = true → PyData.eqv d.pd e.pd = d.eqv e
  | .no, _, h, _ => by simp [D.cmpb] at h
  | .dct _ _, _, h, _ => by simp [D.cmpb] at h
  | .non, e, _, h => by cases e <;> simp [D.cmpb] at h <;> simp [D.pd, PyData.eqv, D.eqv]
  | .bl b, e, _, h => by cases e <;> simp [D.cmpb] at h <;> simp [D.pd, PyData.eqv, D.eqv]
  | .int i, e, _, h => by cases e <;> simp [D.cmpb] at h <;> simp [D.pd, PyData.eqv, D.eqv]
  | .str s, e, _, h => by cases e <;> simp [D.cmpb] at h <;> simp [D.pd, PyData.eqv, D.eqv]
  | .tup xs, e, h1, h => by
    rw [D.cmpb] at h1
    cases e <;> simp only [D.cmpb, Bool.false_eq_true] at h <;> simp only [D.pd, PyData.eqv, D.eqv]
    exact pd_eqvL xs _ h1 h
  | .lst xs, e, h1, h => by
    rw [D.cmpb] at h1
    cases e <;> simp only [D.cmpb, Bool.false_eq_true] at h <;> simp only [D.pd, PyData.eqv, D.eqv]
    · exact pd_eqvL xs _ h1 h
    · exact pd_eqvL xs _ h1 h
  | .rol _ xs, e, h1, h => by
    rw [D.cmpb] at h1
    cases e <;> simp only [D.cmpb, Bool.false_eq_true] at h <;> simp only [D.pd, PyData.eqv, D.eqv]
    · exact pd_eqvL xs _ h1 h
    · exact pd_eqvL xs _ h1 h
theorem pd_eqvL : ∀ ds es : List D, D.cmpbL ds = true → D.cmpbL es = true → PyData.eqvAll (D.pdL ds) (D.pdL es) = D.eqvL ds es
  | [], [], _, _ => by simp [D.pdL, PyData.eqvAll, D.eqvL]
  | [], _ :: _, _, _ => by simp [D.pdL, PyData.eqvAll, D.eqvL]
  | _ :: _, [], _, _ => by simp [D.pdL, PyData.eqvAll, D.eqvL]
  | d :: ds, e :: es, h1, h2 => by
    rw [D.cmpbL, Bool.and_eq_true] at h1 h2
    simp only [D.pdL, PyData.eqvAll, D.eqvL, pd_eqv d e h1.1 h2.1, pd_eqvL ds es h1.2 h2.2]
end
section
variable {K : PySem.W.Frag} {H : Hp}
mutual
theorem A.dp : ∀ x : A, x.ok K H → x.er.cmpb = true → Dp K H x.val x.er.pd ∧ x.er.pd.canLay0 = true
  | .no, _, h => by simp [A.er, D.cmpb] at h
  | .non, _, _ => ⟨.non, by simp [A.er, D.pd, PyData.canLay0]⟩
  | .bl b, _, _ => ⟨.bl b, by simp [A.er, D.pd, PyData.canLay0]⟩
  | .int i, _, _ => ⟨.int i, by simp [A.er, D.pd, PyData.canLay0]⟩
  | .str s, h, _ => ⟨.str s, by simp only [A.er, D.pd, PyData.canLay0]; exact h⟩
  | .tup a xs, h, c => by
    rw [A.ok] at h
    have := A.dpL xs h.2.2 (by simpa [A.er, D.cmpb] using c)
    exact ⟨.tup h.1 this.1, by simp only [A.er, D.pd, PyData.canLay0]; exact this.2⟩
  | .lst a xs, h, c => by
    rw [A.ok] at h
    have := A.dpL xs h.2.2 (by simpa [A.er, D.cmpb] using c)
    exact ⟨.lst (SqL.of h.1) this.1, by simp only [A.er, D.pd, PyData.canLay0]; exact this.2⟩
  | .rol a xs, h, c => by
    rw [A.ok] at h
    have := A.dpL xs h.2.2.1 (by simpa [A.er, D.cmpb] using c)
    exact ⟨.lst (.inl h.1) this.1, by simp only [A.er, D.pd, PyData.canLay0]; exact this.2⟩
  | .kol a xs, h, c => by
    rw [A.ok] at h
    have := A.dpL xs h.2.2.1 (by simpa [A.er, D.cmpb] using c)
    exact ⟨.lst (.inr h.1) this.1, by simp only [A.er, D.pd, PyData.canLay0]; exact this.2⟩
theorem A.dpL : ∀ xs : List A, okL K H xs → D.cmpbL (erL xs) = true → DpAll K H (xs.map A.val) (D.pdL (erL xs)) ∧ PyData.canLayAll0 (D.pdL (erL xs)) = true
  | [], _, _ => ⟨.nil, by simp [erL, D.pdL, PyData.canLayAll0]⟩
  | x :: xs, h, c => by
    rw [okL] at h
    rw [erL, D.cmpbL, Bool.and_eq_true] at c
    have h1 := A.dp x h.1 c.1
    have h2 := A.dpL xs h.2 c.2
    exact ⟨.cons h1.1 h2.1, by simp only [erL, D.pdL, PyData.canLayAll0, h1.2, h2.2]; rfl⟩
end
end
section
variable {X : Cx}
def rEqM (K : PySem.W.Frag) (neg : Bool) : R2 := fun x y H Q => ∃ d e, Dp K H x d ∧ Dp K H y e ∧ d.canLay0 = true ∧ e.canLay0 = true ∧ min d.depth e.depth ≤ 64 ∧ Q (.bl (if neg = true then !PyData.eqv d e else PyData.eqv d e)) H
theorem op_eqM (hu : X.A.units + 64 < cLine) : OpR X (compareOp .Eq) (rEqM X.K false) := by
  intro pins s σ H x y v u Q I rx ry h
  obtain ⟨d, e, hd, he, sd, se, hm, q⟩ := h
  obtain ⟨as, r1⟩ := Dp.reads I d x v hd rx
  obtain ⟨bs, r2⟩ := Dp.reads I e y u he ry
  exact SeqAt.compareEq_reads r1 r2 sd se (by omega) ⟨.bl _, H, I, rfl, q⟩
theorem op_neM (hu : X.A.units + 64 < cLine) : OpR X (compareOp .NotEq) (rEqM X.K true) := by
  intro pins s σ H x y v u Q I rx ry h
  obtain ⟨d, e, hd, he, sd, se, hm, q⟩ := h
  obtain ⟨as, r1⟩ := Dp.reads I d x v hd rx
  obtain ⟨bs, r2⟩ := Dp.reads I e y u he ry
  exact SeqAt.compareNe_reads r1 r2 sd se (by omega) ⟨.bl _, H, I, rfl, q⟩
def rMemM (K : PySem.W.Frag) (neg : Bool) : R2 := fun x y H Q => ∃ d ds, Dp K H x d ∧ (Dp K H y (.list ds) ∨ Dp K H y (.tuple ds)) ∧ d.canLay0 = true ∧ PyData.canLayAll0 ds = true ∧ d.depth ≤ 60 ∧
  Q (.bl (if neg = true then !(ds.any fun z => PyData.eqv z d) else ds.any fun z => PyData.eqv z d)) H
theorem op_memM (hu : X.A.units + 64 < cLine) : OpR X (compareOp .In) (rMemM X.K false) := by
  intro pins s σ H x y v u Q I rx ry h
  obtain ⟨d, ds, hd, he, sd, se, hm, q⟩ := h
  obtain ⟨as, r1⟩ := Dp.reads I d x v hd rx
  rcases he with he | he
  · obtain ⟨bs, r2⟩ := Dp.reads I (.list ds) y u he ry
    exact SeqAt.in_list_reads r2 r1 se sd (by have : d.depth ≤ 60 := hm; omega) ⟨.bl _, H, I, rfl, q⟩
  · obtain ⟨bs, r2⟩ := Dp.reads I (.tuple ds) y u he ry
    exact SeqAt.in_tuple_reads r2 r1 se sd (by have : d.depth ≤ 60 := hm; omega) ⟨.bl _, H, I, rfl, q⟩
theorem op_nmemM (hu : X.A.units + 64 < cLine) : OpR X (compareOp .NotIn) (rMemM X.K true) := by
  intro pins s σ H x y v u Q I rx ry h
  obtain ⟨d, ds, hd, he, sd, se, hm, q⟩ := h
  obtain ⟨as, r1⟩ := Dp.reads I d x v hd rx
  rcases he with he | he
  · obtain ⟨bs, r2⟩ := Dp.reads I (.list ds) y u he ry
    exact SeqAt.notIn_list_reads r2 r1 se sd (by have : d.depth ≤ 60 := hm; omega) ⟨.bl _, H, I, rfl, q⟩
  · obtain ⟨bs, r2⟩ := Dp.reads I (.tuple ds) y u he ry
    exact SeqAt.notIn_tuple_reads r2 r1 se sd (by have : d.depth ≤ 60 := hm; omega) ⟨.bl _, H, I, rfl, q⟩
end
theorem memL_pd {x : D} (hx : x.cmpb = true) : ∀ {ys : List D}, D.cmpbL ys = true → ((D.pdL ys).any fun z => PyData.eqv z x.pd) = x.memL ys
  | [], _ => rfl
  | y :: ys, h => by
    rw [D.cmpbL, Bool.and_eq_true] at h
    have ih := memL_pd hx h.2
    unfold D.memL at ih ⊢
    rw [D.pdL, List.any_cons, List.any_cons, ih, pd_eqv y x h.1 hx]
def Cmp.syn : Cmp → CmpOp
  | .eq => .Eq | .ne => .NotEq | .lt => .Lt | .le => .LtE | .gt => .Gt | .ge => .GtE | .is => .Is | .isn => .IsNot | .mem => .In | .nmem => .NotIn
def Cmp.r (K : PySem.W.Frag) : Cmp → R2
  | .eq => rEqM K false
  | .ne => rEqM K true
  | .lt => rI0 fun i j => .bl (decide (i < j))
  | .le => rI0 fun i j => .bl (decide (i ≤ j))
  | .gt => rI0 fun i j => .bl (decide (j < i))
  | .ge => rI0 fun i j => .bl (decide (j ≤ i))
  | .is => fun x y H Q => (fun x y H Q => y = .non ∧ Q (.bl (decide (x = .non))) H : R2) x y H Q ∨ rIsB x y H Q
  | .isn => fun x y H Q => (fun x y H Q => y = .non ∧ Q (.bl (!decide (x = .non))) H : R2) x y H Q ∨ rNotB x y H Q
  | .mem => rMemM K false
  | .nmem => rMemM K true
theorem Cmp.opR {X : Cx} (hu : X.A.units + 64 < cLine) (o : Cmp) : OpR X (compareOp o.syn) (o.r X.K) := by
  cases o
  · exact op_eqM hu
  · exact op_neM hu
  · exact op_lt
  · exact op_le
  · exact op_gt
  · exact op_ge
  · exact op_isN.or op_isBl
  · exact op_notN.or op_notBl
  · exact op_memM hu
  · exact op_nmemM hu
theorem val_non {x : A} (h : x.er.isNo = false) : decide (x.val = .non) = x.er.isNon := by
  cases x <;> simp [A.val, A.er, D.isNon, D.isNo] at h ⊢
theorem Cmp.ok {K : PySem.W.Frag} {H : Hp} {k : Bool} {Q : VK} (o : Cmp) {x y : A} (h : o.run x.er y.er = some k) (hx : x.ok K H) (hy : y.ok K H) (q : Q (.bl k) H) : o.r K x.val y.val H Q := by
  have mem : ∀ {ys : List A} (neg : Bool), (DpAll K H (ys.map A.val) (D.pdL (erL ys)) → Dp K H y.val (.list (D.pdL (erL ys))) ∨ Dp K H y.val (.tuple (D.pdL (erL ys)))) → okL K H ys → (if x.er.memOk (erL ys) = true then some (if neg = true then !x.er.memL (erL ys) else x.er.memL (erL ys)) else none) = some k →
      rMemM K neg x.val y.val H Q := by
    intro ys neg hd ho h
    split at h
    · rename_i c
      unfold D.memOk at c
      simp only [Bool.and_eq_true, decide_eq_true_eq] at c
      have h1 := A.dp x hx c.1.1
      have h2 := A.dpL ys ho c.1.2
      refine ⟨_, _, h1.1, hd h2.1, h1.2, h2.2, by rw [pd_dep]; exact c.2, ?_⟩
      rw [memL_pd c.1.1 c.1.2]
      cases h
      exact q
    · cases h
  have eqm : ∀ (neg : Bool), (if (x.er.cmpb && y.er.cmpb && decide (min x.er.dep y.er.dep ≤ 60)) = true then some (if neg = true then !x.er.eqv y.er else x.er.eqv y.er) else none) = some k → rEqM K neg x.val y.val H Q := by
    intro neg h
    split at h
    · rename_i c
      simp only [Bool.and_eq_true, decide_eq_true_eq] at c
      have h1 := A.dp x hx c.1.1
      have h2 := A.dp y hy c.1.2
      refine ⟨_, _, h1.1, h2.1, h1.2, h2.2, by rw [pd_dep, pd_dep]; omega, ?_⟩
      rw [pd_eqv _ _ c.1.1 c.1.2]
      cases h
      exact q
    · cases h
  unfold Cmp.run at h
  split at h
  · exact eqm false (by simpa using h)
  · exact eqm true (by simpa using h)
  · rename_i e1 e2; rw [er_int e1, er_int e2]; cases h; exact ⟨_, _, rfl, rfl, q⟩
  · rename_i e1 e2; rw [er_int e1, er_int e2]; cases h; exact ⟨_, _, rfl, rfl, q⟩
  · rename_i e1 e2; rw [er_int e1, er_int e2]; cases h; exact ⟨_, _, rfl, rfl, q⟩
  · rename_i e1 e2; rw [er_int e1, er_int e2]; cases h; exact ⟨_, _, rfl, rfl, q⟩
  · rename_i e1 e2; rw [er_bl e1, er_bl e2]; cases h; exact .inr ⟨_, _, rfl, rfl, q⟩
  · rename_i e1 e2; rw [er_bl e1, er_bl e2]; cases h; exact .inr ⟨_, _, rfl, rfl, q⟩
  · rename_i e1
    rw [er_non e1]
    split at h
    · cases h
    · rename_i n
      cases h
      exact .inl ⟨rfl, by rw [val_non (by simpa using n)]; exact q⟩
  · rename_i e1
    rw [er_non e1]
    split at h
    · cases h
    · rename_i n
      cases h
      exact .inl ⟨rfl, by rw [val_non (by simpa using n)]; exact q⟩
  all_goals first
    | (rename_i e1
       obtain ⟨a, ys, rfl, rfl⟩ := er_lst e1
       rw [A.ok] at hy
       first
         | exact mem false (fun d => .inl (.lst (SqL.of hy.1) d)) hy.2.2 (by simpa using h)
         | exact mem true (fun d => .inl (.lst (SqL.of hy.1) d)) hy.2.2 (by simpa using h))
    | (rename_i e1
       obtain ⟨a, ys, rfl, rfl⟩ := er_tup e1
       rw [A.ok] at hy
       first
         | exact mem false (fun d => .inr (.tup hy.1 d)) hy.2.2 (by simpa using h)
         | exact mem true (fun d => .inr (.tup hy.1 d)) hy.2.2 (by simpa using h))
    | (rename_i e1
       obtain ⟨a, ys, e, rfl⟩ := er_rol e1
       rcases e with rfl | rfl <;> rw [A.ok] at hy
       · first
           | exact mem false (fun d => .inl (.lst (.inl hy.1) d)) hy.2.2.1 (by simpa using h)
           | exact mem true (fun d => .inl (.lst (.inl hy.1) d)) hy.2.2.1 (by simpa using h)
       · first
           | exact mem false (fun d => .inl (.lst (.inr hy.1) d)) hy.2.2.1 (by simpa using h)
           | exact mem true (fun d => .inl (.lst (.inr hy.1) d)) hy.2.2.1 (by simpa using h))
    | cases h
end Ev
end

section
set_option Elab.async false
set_option linter.all false
set_option maxRecDepth 100000
/-! EvB5: isinstance, subscripts, slices, built-ins. -/
namespace Ev
open PySem L2 PyProof.Rows

/-! ### isinstance -/
def D.tyn : D → String
  | .non => "NoneType"
  | .bl _ => "bool"
  | .int _ => "int"
  | .str _ => "str"
  | .tup _ => "tuple"
  | .lst _ => "list"
  | .rol _ _ => "list"
  | .no => ""
  | .dct _ _ => "dict"
def Ty.nm : Ty → String
  | .int => "int"
  | .bool => "bool"
  | .str => "str"
  | .tuple => "tuple"
  | .list => "list"
theorem A.tyx {K : PySem.W.Frag} {H : Hp} {x : A} (h : x.ok K H) (n : x.er.isNo = false) : TyX K H x.val (.type x.er.tyn) := by
  cases x with
  | no => simp [A.er, D.isNo] at n
  | non => exact .base .non
  | bl b => exact .base (.bl b)
  | int i => exact .base (.int i)
  | str s => exact .base (.str s)
  | tup a xs =>
    rw [A.ok] at h
    rcases h.1 with (h | ⟨o, h⟩) | ⟨o, its, n, h, c, _⟩
    · exact .base (.tup h)
    · exact .fTuple h
    · exact .kTuple h c
  | lst a xs => rw [A.ok] at h; exact .base (.lst h.1)
  | rol a xs =>
    rw [A.ok] at h
    rcases h.1 with h | ⟨o, h⟩
    · exact .base (.lst h)
    · exact .base (.frz h)
  | kol a xs =>
    rw [A.ok] at h
    obtain ⟨o, its, n, h, c, _⟩ := h.1
    exact .kList h c
theorem kitB_ok : ∀ (t : Ty) (d : D) (b : Bool), t.of d = some b → kitB d.tyn t.nm = some b := by
  have f : ∀ (t : Ty), kitB "NoneType" t.nm = some false ∧ kitB "str" t.nm = some (t == .str) ∧ kitB "tuple" t.nm = some (t == .tuple) ∧ kitB "list" t.nm = some (t == .list) ∧
      kitB "int" t.nm = some (t == .int) ∧ kitB "bool" t.nm = some (t == .bool || t == .int) := by
    intro t
    cases t <;> decide +kernel
  intro t d b h
  obtain ⟨f1, f2, f3, f4, f5, f6⟩ := f t
  cases d with
  | no => cases t <;> simp [Ty.of] at h
  | non => rw [D.tyn, f1]; cases t <;> simp [Ty.of] at h <;> subst h <;> rfl
  | str s => rw [D.tyn, f2]; cases t <;> simp [Ty.of] at h <;> subst h <;> rfl
  | tup s => rw [D.tyn, f3]; cases t <;> simp [Ty.of] at h <;> subst h <;> rfl
  | lst s => rw [D.tyn, f4]; cases t <;> simp [Ty.of] at h <;> subst h <;> rfl
  | rol _ s => rw [D.tyn, f4]; cases t <;> simp [Ty.of] at h <;> subst h <;> rfl
  | int s => rw [D.tyn, f5]; cases t <;> simp [Ty.of] at h <;> subst h <;> rfl
  | bl s => rw [D.tyn, f6]; cases t <;> simp [Ty.of] at h <;> subst h <;> rfl
  | dct _ _ => cases t <;> simp [Ty.of] at h
theorem of_isNo {t : Ty} {d : D} {b : Bool} (h : t.of d = some b) : d.isNo = false := by
  cases d <;> simp [Ty.of, D.isNo] at h ⊢
theorem isIs_kit {K : PySem.W.Frag} {d : D} : ∀ {ts : List Ty} {b : Bool}, d.isIs ts = some b → PySem.W.kitAny K (.type d.tyn) (ts.map fun t => .type t.nm) = some b
  | [], b, h => by
    simp [D.isIs] at h
    subst h; rfl
  | t :: ts, b, h => by
    rw [D.isIs] at h
    cases e : t.of d with
    | none => rw [e] at h; simp at h
    | some k =>
      rw [e] at h
      rw [List.map_cons]
      cases k with
      | true =>
        simp at h
        subst h
        exact kitAny_cons (kit_ty (kitB_ok t d _ e)) (fun z => by cases z) fun _ => rfl
      | false =>
        exact kitAny_cons (kit_ty (kitB_ok t d _ e)) (fun _ => isIs_kit h) fun z => by cases z
theorem isIs_isNo {ts : List Ty} {d : D} {b : Bool} (h : d.isIs ts = some b) (ht : ts ≠ []) : d.isNo = false := by
  cases ts with
  | nil => exact absurd rfl ht
  | cons t ts =>
    rw [D.isIs] at h
    cases e : t.of d with
    | none => rw [e] at h; simp at h
    | some k => exact of_isNo e

/-! ### subscripts -/
theorem ixN_eq (n : Nat) (i : Int) : Ev.ixN n i = L2.ixN n i := rfl
theorem item_er {xs : List A} {k : Int} {d : D} (h : ((Ev.ixN (erL xs).length k).bind fun j => (erL xs)[j]?) = some d) : ∃ y ∈ xs, y.er = d ∧ atI (xs.map A.val) k = some y.val := by
  rw [erL_length] at h
  obtain ⟨j, e1, e2⟩ := Option.bind_eq_some_iff.mp h
  rw [erL_map, List.getElem?_map] at e2
  obtain ⟨y, e3, e4⟩ := Option.map_eq_some_iff.mp e2
  refine ⟨y, List.mem_of_getElem? e3, e4, ?_⟩
  unfold atI
  rw [List.length_map, ← ixN_eq, e1]
  show (xs.map A.val)[j]? = _
  rw [List.getElem?_map, e3]; rfl
theorem strOk_one {s : Str} (h : PySem.PyData.strOk s = true) {c : Nat} (m : c ∈ s.cps.toList) : PySem.PyData.strOk ⟨#[c]⟩ = true := by
  have h' : s.cps.all (· < 0x110000) = true := h
  rw [← Array.all_toList, List.all_eq_true] at h'
  show (#[c].all (· < 0x110000)) = true
  have := h' c m
  simpa using this
/-- an item, as it stands -/
theorem item_ok {K : PySem.W.Frag} {H : Hp} {x k : A} {d : D} {Q : VK} (h : x.er.item k.er = some d) (hx : x.ok K H) (q : ∀ y : A, y.er = d → y.ok K H → Q y.val H) : rIx K x.val k.val H Q := by
  unfold D.item at h
  split at h
  · rename_i e1 e2
    obtain ⟨a, xs, rfl, rfl⟩ := er_tup e1
    rw [er_int e2]
    rw [A.ok] at hx
    obtain ⟨y, m, e, ha⟩ := item_er h
    exact .inr (.inl ⟨a, _, _, _, rfl, rfl, hx.1, ha, q y e (okL_iff.mp hx.2.2 y m)⟩)
  · rename_i e1 e2
    obtain ⟨a, xs, rfl, rfl⟩ := er_lst e1
    rw [er_int e2]
    rw [A.ok] at hx
    obtain ⟨y, m, e, ha⟩ := item_er h
    exact .inl ⟨a, _, _, _, rfl, rfl, SqL.of hx.1, ha, q y e (okL_iff.mp hx.2.2 y m)⟩
  · rename_i e1 e2
    obtain ⟨a, xs, e, rfl⟩ := er_rol e1
    rw [er_int e2]
    obtain ⟨y, m, e', ha⟩ := item_er h
    rcases e with rfl | rfl
    · have := A.seqL hx (.inr (.inl rfl))
      exact .inl ⟨a, _, _, _, rfl, rfl, this.2.1, ha, q y e' (okL_iff.mp this.2.2.2 y m)⟩
    · have := A.seqL hx (.inr (.inr rfl))
      exact .inl ⟨a, _, _, _, rfl, rfl, this.2.1, ha, q y e' (okL_iff.mp this.2.2.2 y m)⟩
  · rename_i e1 e2
    have hx' := hx
    rw [er_str e1] at hx' ⊢
    rw [er_int e2]
    split at h
    · rename_i hl
      obtain ⟨j, e3, e4⟩ := Option.bind_eq_some_iff.mp h
      obtain ⟨c, e5, e6⟩ := Option.map_eq_some_iff.mp e4
      refine .inr (.inr ⟨_, _, c, rfl, rfl, by rw [← line_eq]; exact hl, by unfold atI; rw [← ixN_eq, e3]; exact e5, ?_⟩)
      exact q (.str ⟨#[c]⟩) e6 (strOk_one hx' (List.mem_of_getElem? e5))
    · cases h
  · cases h

/-! ### slices -/
theorem sIx_eq (n d : Nat) (o : Option Int) : Ev.sIx n d o = HT.sIx n d o := by
  cases o <;> rfl
theorem cut_map {α β : Type} (f : α → β) (xs : List α) (lo hi : Option Int) : Ev.cut (xs.map f) lo hi = (Ev.cut xs lo hi).map f := by
  unfold Ev.cut
  rw [List.length_map, List.map_take, List.map_drop]
theorem cut_cutV (xs : List V) (lo hi : Option Int) : Ev.cut xs lo hi = cutV xs lo hi := by
  unfold Ev.cut cutV
  rw [sIx_eq, sIx_eq]
theorem cut_mem {α : Type} {xs : List α} {lo hi : Option Int} {x : α} (h : x ∈ Ev.cut xs lo hi) : x ∈ xs := List.mem_of_mem_drop (List.mem_of_mem_take h)
theorem cut_len {α : Type} (xs : List α) (lo hi : Option Int) : (Ev.cut xs lo hi).length ≤ xs.length := by
  unfold Ev.cut
  rw [List.length_take, List.length_drop]; omega
theorem cut_er (xs : List A) (lo hi : Option Int) : Ev.cut (erL xs) lo hi = erL (Ev.cut xs lo hi) := by rw [erL_map, erL_map, cut_map]
theorem okL_cut {K : PySem.W.Frag} {H : Hp} {xs : List A} {lo hi : Option Int} (h : okL K H xs) : okL K H (Ev.cut xs lo hi) := okL_iff.mpr fun x m => okL_iff.mp h x (cut_mem m)
theorem immL_cut {xs : List D} {lo hi : Option Int} (h : D.immL xs = true) : D.immL (Ev.cut xs lo hi) = true := immL_iff.mpr fun x m => immL_iff.mp h x (cut_mem m)
theorem strOk_cut {s : Str} {lo hi : Option Int} (h : PySem.PyData.strOk s = true) : PySem.PyData.strOk ⟨(Ev.cut s.cps.toList lo hi).toArray⟩ = true := by
  have h' : s.cps.all (· < 0x110000) = true := h
  rw [← Array.all_toList, List.all_eq_true] at h'
  show ((Ev.cut s.cps.toList lo hi).toArray.all (· < 0x110000)) = true
  rw [← Array.all_toList, List.all_eq_true]
  exact fun c m => h' c (cut_mem (by simpa using m))
def rSl (K : PySem.W.Frag) : V → Option Int → Option Int → Hp → VK → Prop := fun x lo hi H Q => rSlA K x lo hi H Q ∨ rSlL K x lo hi H Q ∨ rSlS x lo hi H Q
theorem sl_any {X : Cx} : SlR X (rSl X.K) := sl_tupA.or (sl_list.or sl_str)
theorem slice_ok {K : PySem.W.Frag} {H : Hp} {x : A} {z : D} {lo hi : Option Int} {Q : VK} (h : x.er.slice lo hi = some z) (hx : x.ok K H) (q : Out K H z Q) : rSl K x.val lo hi H Q := by
  unfold D.slice at h
  split at h
  · rename_i e1
    obtain ⟨a, xs, rfl, rfl⟩ := er_tup e1
    split at h
    · rename_i hi'
      cases h
      rw [cut_er] at q
      have hx' := hx
      rw [A.ok] at hx'
      refine .inl ⟨a, _, rfl, hx'.1, fun w => ?_, fun _ p hp => ?_⟩
      · have e : Ev.cut xs lo hi = xs := by
          unfold Ev.cut
          rw [List.length_map] at w
          rw [sIx_eq, sIx_eq, w.1, w.2]; simp
        rw [e] at q
        exact Out.imm (x := .tup a xs) q hx (by simp [A.er, D.imm, hi'])
      · rw [← cut_cutV, cut_map]
        exact q.tup hp (by rw [← cut_er]; exact immL_cut hi') (okL_cut hx'.2.2) (Nat.le_trans (cut_len _ _ _) hx'.2.1)
    · cases h
  · rename_i e1
    obtain ⟨a, xs, rfl, rfl⟩ := er_lst e1
    split at h
    · rename_i hi'
      cases h
      rw [cut_er] at q
      have hx' := A.seqL hx (.inl rfl)
      refine .inr (.inl ⟨a, _, rfl, hx'.2.1, fun p hp => ?_⟩)
      rw [← cut_cutV, cut_map]
      exact q.lst hp (by rw [← cut_er]; exact immL_cut hi') (okL_cut hx'.2.2.2) (Nat.le_trans (cut_len _ _ _) hx'.2.2.1)
    · cases h
  · rename_i e1
    obtain ⟨a, xs, e, rfl⟩ := er_rol e1
    split at h
    · rename_i hi'
      cases h
      rw [cut_er] at q
      have hx' := A.seqL hx (.inr e)
      refine .inr (.inl ⟨a, _, hx'.1, hx'.2.1, fun p hp => ?_⟩)
      rw [← cut_cutV, cut_map]
      exact q.lst hp (by rw [← cut_er]; exact immL_cut hi') (okL_cut hx'.2.2.2) (Nat.le_trans (cut_len _ _ _) hx'.2.2.1)
    · cases h
  · rename_i s e1
    have hx' := hx
    rw [er_str e1] at hx' ⊢
    split at h
    · rename_i hl
      cases h
      refine .inr (.inr ⟨_, rfl, by rw [← line_eq]; exact hl, ?_⟩)
      have e : cutS s lo hi = ⟨(Ev.cut s.cps.toList lo hi).toArray⟩ := by
        unfold cutS Ev.cut
        rw [sIx_eq, sIx_eq, Array.length_toList]
        rfl
      rw [e]
      exact q.str (strOk_cut hx')
    · cases h
  · cases h

/-! ### built-ins -/
section
variable {X : Cx}
theorem alikeInts (n : Int) (ns : List Int) : PySem.W.AlikeAll ((PyData.int n) :: ns.map .int) := by
  have f : ∀ x ∈ (PyData.int n) :: ns.map .int, ∃ k, x = .int k := by
    intro x m
    rcases List.mem_cons.mp m with e | m
    · exact ⟨n, e⟩
    · obtain ⟨k, _, e⟩ := List.mem_map.mp m
      exact ⟨k, e.symm⟩
  refine ⟨fun x mx y my => ?_, fun x mx => ?_⟩
  · obtain ⟨a, rfl⟩ := f x mx
    obtain ⟨b, rfl⟩ := f y my
    simp [PySem.W.alike]
  · obtain ⟨a, rfl⟩ := f x mx
    intro z; cases z
theorem depthInts (n : Int) (ns : List Int) : PyData.depthAll ((PyData.int n) :: ns.map .int) = 0 := by
  have f : ∀ ns : List Int, PyData.depthAll (ns.map .int) = 0 := by
    intro ns
    induction ns with
    | nil => simp [PyData.depthAll]
    | cons k ns ih => simp [PyData.depthAll, PyData.depth, ih]
  simp [PyData.depthAll, PyData.depth, f]
theorem readsInts {h : Heap} : ∀ {us : List Value} {ns : List Int}, Vals (ns.map V.int) us → ∃ as, ReadsAll h us (ns.map .int) as
  | _, [], r => by cases r; exact ⟨_, .nil⟩
  | _, n :: ns, r => by
    cases r with
    | cons r rr =>
      obtain ⟨t, rfl⟩ := r
      obtain ⟨as, q⟩ := readsInts rr
      exact ⟨_, .cons (.int n t) q⟩
def rMM (K : PySem.W.Frag) (f : Int → Int → Int) : List V → Hp → VK → Prop := fun vs H Q => ∃ (a : Addr) (n : Int) (ns : List Int), vs = [V.ref a] ∧ (SqL K H a ((n :: ns).map V.int) ∨ SqT K H a ((n :: ns).map V.int)) ∧ Q (.int (ns.foldl f n)) H
theorem cr_maxI (hc : X.calm = true) (hu : X.A.units + 64 < cLine) : CallR X (.builtin "max") (rMM X.K max) := by
  intro pins s σ H vs us Q I r h
  obtain ⟨a, n, ns, rfl, hs, q⟩ := h
  rw [Vals.ref1 r]
  rcases hs with hs | hs
  · obtain ⟨its, rv, hl, _⟩ := I.list hs
    obtain ⟨as, ra⟩ := readsInts (h := s.heap) (ns := n :: ns) rv
    refine PySem.W.max_list_data (I.ok.hd hc) hl.isList (by simpa using ra) (alikeInts n ns) (by rw [depthInts]; omega) fun i v h' tk bs _ rd hk => ?_
    rw [PySem.W.maxD_ints] at rd
    cases rd
    exact ⟨.int _, H, I.kept hk, ⟨_, rfl⟩, q⟩
  · obtain ⟨its, rv, hl, _⟩ := I.tuple hs
    obtain ⟨as, ra⟩ := readsInts (h := s.heap) (ns := n :: ns) rv
    refine PySem.W.max_tuple_data (I.ok.hd hc) (show s.heap.IsTuple a its.toArray from hl) (by simpa using ra) (alikeInts n ns) (by rw [depthInts]; omega) fun i v h' tk bs _ rd hk => ?_
    rw [PySem.W.maxD_ints] at rd
    cases rd
    exact ⟨.int _, H, I.kept hk, ⟨_, rfl⟩, q⟩
theorem cr_minI (hc : X.calm = true) (hu : X.A.units + 64 < cLine) : CallR X (.builtin "min") (rMM X.K min) := by
  intro pins s σ H vs us Q I r h
  obtain ⟨a, n, ns, rfl, hs, q⟩ := h
  rw [Vals.ref1 r]
  rcases hs with hs | hs
  · obtain ⟨its, rv, hl, _⟩ := I.list hs
    obtain ⟨as, ra⟩ := readsInts (h := s.heap) (ns := n :: ns) rv
    refine PySem.W.min_list_data (I.ok.hd hc) hl.isList (by simpa using ra) (alikeInts n ns) (by rw [depthInts]; omega) fun i v h' tk bs _ rd hk => ?_
    rw [PySem.W.minD_ints] at rd
    cases rd
    exact ⟨.int _, H, I.kept hk, ⟨_, rfl⟩, q⟩
  · obtain ⟨its, rv, hl, _⟩ := I.tuple hs
    obtain ⟨as, ra⟩ := readsInts (h := s.heap) (ns := n :: ns) rv
    refine PySem.W.min_tuple_data (I.ok.hd hc) (show s.heap.IsTuple a its.toArray from hl) (by simpa using ra) (alikeInts n ns) (by rw [depthInts]; omega) fun i v h' tk bs _ rd hk => ?_
    rw [PySem.W.minD_ints] at rd
    cases rd
    exact ⟨.int _, H, I.kept hk, ⟨_, rfl⟩, q⟩
end
end Ev
end

section
set_option Elab.async false
set_option linter.all false
set_option maxRecDepth 100000
/-! EvB6: expressions, construct by construct. -/
namespace Ev
open PySem L2
theorem bind_assoc {α β γ : Type} (r : R α) (f : α → Env → R β) (g : β → Env → R γ) : (r.bind f).bind g = r.bind fun a ρ => (f a ρ).bind g := by cases r <;> rfl
theorem opt_bind {α β γ : Type} (o : Option α) (f : α → R β) (g : β → Env → R γ) : (opt o f).bind g = opt o fun a => (f a).bind g := by cases o <;> rfl
theorem ifOk_bind {β γ : Type} (b : Bool) (r : R β) (g : β → Env → R γ) : (ifOk b r).bind g = ifOk b (r.bind g) := by cases b <;> rfl
section
variable {K : PySem.W.Frag} {gl : Nat → Option D} {call : Nat → List D → R D} {XR : XRel} {W : WX} {σ : St} {α : List A} {H : Hp} {β : Type} {E : Ex → Env → Prop} {P : β → Env → Prop} {f : D → Env → R β}
theorem oneB {e : Ev.E} {Q : VK} (m : Mt σ α) (g : Good K H α) (s : ((evM gl call e .b (erL α)).bind f).sat P E) (hE : ∀ x ρ, E x ρ → EX K XR W σ α H x ρ)
    (k : ∀ x α1 H1, x.ok K H1 → Mt σ α1 → Stp K (Wof e.quiet α) α H (own e x ++ α1) H1 → (f x.er (erL α1)).sat P E → Q x.val H1) : tB K gl call XR W e σ H Q := by
  refine ⟨α, m, g, sat_mono (sat_bind.mp s) (fun d ρ h x α1 H1 e1 e2 m1 st ok => ?_) hE⟩
  subst e1 e2
  exact k x α1 H1 ok m1 st h
theorem oneV {e : Ev.E} {Q : VK} (m : Mt σ α) (g : Good K H α) (s : ((evM gl call e .v (erL α)).bind f).sat P E) (hE : ∀ x ρ, E x ρ → EX K XR W σ α H x ρ)
    (k : ∀ x α1 H1, Mt σ α1 → Stp K (Wof e.quiet α) α H (x :: α1) H1 → (f x.er (erL α1)).sat P E → Q x.val H1) : tV K gl call XR W e σ H Q := by
  refine ⟨α, m, g, sat_mono (sat_bind.mp s) (fun d ρ h x α1 H1 e1 e2 m1 st => ?_) hE⟩
  subst e1 e2
  exact k x α1 H1 m1 st h
theorem oneT {e : Ev.E} {Q : Bool → Hp → Prop} (m : Mt σ α) (g : Good K H α) (s : ((evM gl call e .t (erL α)).bind f).sat P E) (hE : ∀ x ρ, E x ρ → EX K XR W σ α H x ρ)
    (k : ∀ d α1 H1, Mt σ α1 → Stp K (Wof e.quiet α) α H α1 H1 → (f d (erL α1)).sat P E → Q d.isT H1) : tT K gl call XR W e σ H Q := by
  refine ⟨α, m, g, sat_mono (sat_bind.mp s) (fun d ρ h α1 H1 e2 m1 st => ?_) hE⟩
  subst e2
  exact k d α1 H1 m1 st h
theorem bind_id {r : R D} : (r.bind fun d ρ => .ok d ρ) = r := by cases r <;> rfl
/-- .. the last one: all is said by its own end -/
theorem lastV {e : Ev.E} {Q : VK} (m : Mt σ α) (g : Good K H α) {P : D → Env → Prop} (s : (evM gl call e .v (erL α)).sat P E) (hE : ∀ x ρ, E x ρ → EX K XR W σ α H x ρ)
    (k : ∀ x α1 H1, Mt σ α1 → Stp K (Wof e.quiet α) α H (x :: α1) H1 → P x.er (erL α1) → Q x.val H1) : tV K gl call XR W e σ H Q := by
  rw [← bind_id (r := evM gl call e .v (erL α))] at s
  exact oneV m g s hE k
theorem lastB {e : Ev.E} {Q : VK} (m : Mt σ α) (g : Good K H α) {P : D → Env → Prop} (s : (evM gl call e .b (erL α)).sat P E) (hE : ∀ x ρ, E x ρ → EX K XR W σ α H x ρ)
    (k : ∀ x α1 H1, x.ok K H1 → Mt σ α1 → Stp K (Wof e.quiet α) α H (own e x ++ α1) H1 → P x.er (erL α1) → Q x.val H1) : tB K gl call XR W e σ H Q := by
  rw [← bind_id (r := evM gl call e .b (erL α))] at s
  exact oneB m g s hE k
theorem lastT {e : Ev.E} {Q : Bool → Hp → Prop} (m : Mt σ α) (g : Good K H α) {P : D → Env → Prop} (s : (evM gl call e .t (erL α)).sat P E) (hE : ∀ x ρ, E x ρ → EX K XR W σ α H x ρ)
    (k : ∀ d α1 H1, Mt σ α1 → Stp K (Wof e.quiet α) α H α1 H1 → P d (erL α1) → Q d.isT H1) : tT K gl call XR W e σ H Q := by
  rw [← bind_id (r := evM gl call e .t (erL α))] at s
  exact oneT m g s hE k
end
/-- an expression that stands by itself -/
def plainE : Expr → Bool
  | .Starred .. => false
  | .Slice .. => false
  | _ => true
theorem plainIx {b : Expr} (h : plainE b = true) : PlainIx b := by
  intro o i
  cases b <;> first | rfl | (simp [plainE] at h)
theorem starCons {e : Expr} {es : List Expr} {env : PySem.Env} (h : plainE e = true) : starEach (e :: es) env = (false, eval e env) :: starEach es env := by
  cases e <;> first | rfl | (simp [plainE] at h)
theorem starAny {es : List Expr} {env : PySem.Env} (h : es.all plainE = true) (pos : Pos) : (backTo pos (starEach es env)).any (·.1) = false := by
  induction es with
  | nil => rfl
  | cons e es ih =>
    rw [List.all_cons, Bool.and_eq_true] at h
    rw [starCons h.1]
    exact ih h.2
section
variable {X : Cx} {gl : Nat → Option D} {call : Nat → List D → R D} {XR : XRel} {W : WX}
/-- a place -/
theorem SE.plc {e : Ev.E} {ex : Expr} (h : PE X ex (tB X.K gl call XR W e)) (ht : e.temp = false) (hm : ∀ m ρ, evM gl call e m ρ = (evM gl call e .b ρ).bind fun d ρ' => m.plc d ρ')
    (he : ∀ whole, isTrue ex X.env whole = (do let v ← whole; standAt ex.pos; holding [v] (truthy v))) : SE X gl call XR W e ex := by
  have ow : ∀ x, own e x = [] := fun x => by unfold own; rw [ht]; rfl
  refine ⟨impE h fun σ H Q q => ?_, h, fun _ => impT (pt_truth h he) fun σ H Q q => ?_⟩
  · obtain ⟨α, m, g, s⟩ := q
    rw [hm] at s
    refine oneB m g s (fun _ _ z => z) fun x α1 H1 ok m1 st s1 => ?_
    rw [ow] at st
    obtain ⟨hi, s1⟩ := sat_ifOk.mp s1
    exact s1 x α1 H1 rfl rfl m1 (st.imm ok hi)
  · obtain ⟨α, m, g, s⟩ := q
    rw [hm] at s
    refine oneB m g s (fun _ _ z => z) fun x α1 H1 ok m1 st s1 => ?_
    rw [ow] at st
    obtain ⟨k, ek, s1⟩ := sat_opt.mp s1
    exact ⟨k, truth_ok ek ok, s1 α1 H1 rfl m1 st⟩
theorem rd_at {σ : St} {α : List A} {i : Nat} {d : D} (m : Mt σ α) (h : rd (erL α) i = some d) : ∃ x, α[i]? = some x ∧ x.er = d ∧ σ[i]? = some (some x.val) := by
  obtain ⟨x, e1, e2, n⟩ := rd_er h
  exact ⟨x, e1, e2, (m.at_ i x e1).resolve_left n⟩
theorem s_var {i : Nat} {x : Str} {pos : Pos} (hN : X.N[i]? = some x) (hv : Vis X.env.scope x) (hd : (x == ("__debug__" : Str)) = false) (hcd : (x == ("__classdict__" : Str)) = false) : SE X gl call XR W (.var i) (.Name x pos) := by
  refine SE.plc (impE (pe_var hN hv hd hcd) fun σ H Q q => ?_) rfl (fun m ρ => ?_) fun _ => rfl
  · obtain ⟨α, m, g, s⟩ := q
    obtain ⟨d, ed, s⟩ := sat_opt.mp s
    obtain ⟨y, e1, e2, e3⟩ := rd_at m ed
    exact ⟨_, e3, s y α H e2 rfl m (Stp.refl g) (okL_iff.mp g.ok y (List.mem_of_getElem? e1))⟩
  · show opt (rd ρ i) _ = (opt (rd ρ i) _).bind _
    rw [opt_bind]
    rfl
/-- footprints when a slot changes -/
theorem footL_set : ∀ {α : List A} {i : Nat} {x : A}, α[i]? = some x → ∃ l, (footL α).Perm (x.foot ++ l) ∧ ∀ y, (footL (α.set i y)).Perm (y.foot ++ l)
  | z :: α, 0, x, h => by
    simp at h; subst h
    exact ⟨footL α, .refl _, fun y => .refl _⟩
  | z :: α, i + 1, x, h => by
    obtain ⟨l, p, q⟩ := footL_set (α := α) (i := i) (x := x) (by simpa using h)
    refine ⟨z.foot ++ l, ?_, fun y => ?_⟩
    · show (z.foot ++ footL α).Perm _
      exact (List.Perm.append_left _ p).trans (by rw [← List.append_assoc, ← List.append_assoc]; exact List.Perm.append_right _ List.perm_append_comm)
    · show (z.foot ++ footL (α.set i y)).Perm _
      exact (List.Perm.append_left _ (q y)).trans (by rw [← List.append_assoc, ← List.append_assoc]; exact List.Perm.append_right _ List.perm_append_comm)
theorem okL_set {K : PySem.W.Frag} {H : Hp} {α : List A} {i : Nat} {y : A} (h : okL K H α) (hy : y.ok K H) : okL K H (α.set i y) := by
  rw [okL_iff] at h ⊢
  intro x m
  rcases List.mem_or_eq_of_mem_set m with q | q
  · exact h x q
  · subst q; exact hy
theorem erL_set (α : List A) (i : Nat) (y : A) : erL (α.set i y) = (erL α).set i y.er := by rw [erL_map, erL_map, List.map_set]
/-- a slot's value taken out -/
theorem Good.take {K : PySem.W.Frag} {H : Hp} {α : List A} {i : Nat} {x : A} (g : Good K H α) (h : α[i]? = some x) : Good K H (x :: α.set i .no) := by
  obtain ⟨l, p, q⟩ := footL_set h
  refine g.sub ⟨okL_iff.mp g.ok x (List.mem_of_getElem? h), okL_set g.ok trivial⟩ ⟨[], ?_⟩
  rw [List.append_nil]
  exact p.trans (List.Perm.append_left _ (q .no).symm)
theorem Mt.set_no {σ : St} {α : List A} {i : Nat} (m : Mt σ α) : Mt σ (α.set i .no) := by
  refine ⟨by rw [List.length_set]; exact m.len, fun j x h => ?_⟩
  by_cases e : i = j
  · subst e
    by_cases hl : i < α.length
    · rw [List.getElem?_set_self hl] at h
      exact .inl (Option.some.inj h).symm
    · rw [List.getElem?_eq_none (by simpa using hl)] at h; cases h
  · rw [List.getElem?_set_ne e] at h
    exact m.at_ j x h
theorem stp_same {K : PySem.W.Frag} {W : List Addr} {Γ Γ' : List A} {H : Hp} (g : Good K H Γ') (hf : ∀ a ∈ footL Γ', a ∈ footL Γ) : Stp K W Γ H Γ' H := ⟨g, .refl, fun a m => .inl (hf a m)⟩
theorem Stp.take {K : PySem.W.Frag} {H : Hp} {W : List Addr} {α : List A} {i : Nat} {x : A} (g : Good K H α) (h : α[i]? = some x) : Stp K W α H (x :: α.set i .no) H := by
  obtain ⟨l, p, q⟩ := footL_set h
  exact stp_same (g.take h) fun a m => p.mem_iff.mpr ((List.Perm.append_left x.foot (q .no)).mem_iff.mp m)
theorem s_mov {i : Nat} {x : Str} {pos : Pos} (hN : X.N[i]? = some x) (hv : Vis X.env.scope x) (hd : (x == ("__debug__" : Str)) = false) (hcd : (x == ("__classdict__" : Str)) = false) : SE X gl call XR W (.mov i) (.Name x pos) := by
  refine SE.temp (impE (pe_var hN hv hd hcd) fun σ H Q q => ?_) rfl (fun ρ => rfl) (fun ρ => rfl) fun _ _ => rfl
  obtain ⟨α, m, g, s⟩ := q
  obtain ⟨d, ed, s⟩ := sat_opt.mp s
  obtain ⟨y, e1, e2, e3⟩ := rd_at m ed
  refine ⟨_, e3, ?_⟩
  have oy := okL_iff.mp g.ok y (List.mem_of_getElem? e1)
  split at s
  · rename_i hi
    exact s y α H e2 rfl m ((Stp.refl g).imm oy (by rw [e2]; exact hi))
  · obtain ⟨_, s⟩ := sat_ifOk.mp s
    exact s y (α.set i .no) H e2 (by rw [erL_set]; rfl) m.set_no (Stp.take g e1)
theorem s_const {e : Ev.E} {ex : Expr} {x : A} (h : PE X ex (tC x.val)) (ok : ∀ H, x.ok X.K H) (hi : x.er.imm = true) (he : e.temp = true) (hv : ∀ ρ, evM gl call e .v ρ = .ok x.er ρ) (hb : ∀ ρ, evM gl call e .b ρ = .ok x.er ρ)
    (ht : ∀ ρ, evM gl call e .t ρ = Md.t.tr (.ok x.er ρ)) (htr : e.testable = true → ∀ whole, isTrue ex X.env whole = (do let v ← whole; standAt ex.pos; holding [v] (truthy v))) : SE X gl call XR W e ex := by
  refine SE.temp (impE h fun σ H Q q => ?_) he (fun ρ => by rw [hb, hv]) (fun ρ => by rw [ht, hv]) htr
  obtain ⟨α, m, g, s⟩ := q
  rw [hv] at s
  exact s x α H rfl rfl m ((Stp.refl g).imm (ok H) hi)
theorem s_non {j pos} : SE X gl call XR W .non (.Constant .none j pos) := s_const (x := .non) pe_non (fun _ => trivial) rfl rfl (fun _ => rfl) (fun _ => rfl) (fun _ => rfl) fun _ _ => rfl
theorem s_bl {b j pos} : SE X gl call XR W (.bl b) (.Constant (.bool b) j pos) := s_const (x := .bl b) pe_bl (fun _ => trivial) rfl rfl (fun _ => rfl) (fun _ => rfl) (fun _ => rfl) fun _ _ => rfl
theorem s_int {i j pos} : SE X gl call XR W (.int i) (.Constant (.int i) j pos) := s_const (x := .int i) pe_int (fun _ => trivial) rfl rfl (fun _ => rfl) (fun _ => rfl) (fun _ => rfl) fun _ _ => rfl
theorem s_str {x j pos} (h : PySem.PyData.strOk x = true) : SE X gl call XR W (.str x) (.Constant (.str x) j pos) := s_const (x := .str x) pe_str (fun _ => h) rfl rfl (fun _ => rfl) (fun _ => rfl) (fun _ => rfl) fun _ _ => rfl
/-- a constant of the module -/
theorem s_glb {g : Nat} {x : Str} {pos : Pos} {a : A} {u : Value} (hg : Gl X x) (hm : X.mg x = some u) (r : RelV a.val u) (ok : ∀ H, a.ok X.K H) (hi : a.er.imm = true) (hgl : gl g = some a.er) (hd : (x == ("__debug__" : Str)) = false) :
    SE X gl call XR W (.glb g) (.Name x pos) := by
  have e : ∀ ρ, (opt (gl g) fun d => ifOk d.imm (R.ok d ρ)) = .ok a.er ρ := fun ρ => by rw [hgl]; show ifOk a.er.imm _ = _; rw [hi]; rfl
  exact s_const (x := a) (pe_glob hg hm r hd) ok hi rfl (fun ρ => e ρ) (fun ρ => e ρ) (fun ρ => congrArg Md.t.tr (e ρ)) fun _ _ => rfl
/-- two operands -/
theorem two {a b : Ev.E} {σ : St} {α : List A} {H : Hp} {β : Type} {P : β → Env → Prop} {f : D → D → Env → R β} {Q : V → V → Hp → Prop} {K : PySem.W.Frag} (m : Mt σ α) (g : Good K H α)
    (s : ((evM gl call a .b (erL α)).bind fun x ρ1 => ifOk (needs x a b.quiet) <| (evM gl call b .b ρ1).bind fun y ρ2 => f x y ρ2).sat P (EX K XR W σ α H))
    (k : ∀ (x y : A) (α2 : List A) (H2 : Hp), x.ok K H2 → y.ok K H2 → Mt σ α2 → Stp K (Wof (a.quiet && b.quiet) α) α H (own b y ++ α2) H2 → (f x.er y.er (erL α2)).sat P (EX K XR W σ α H) → Q x.val y.val H2) :
    tB K gl call XR W a σ H fun v H1 => tB K gl call XR W b σ H1 fun u H2 => Q v u H2 := by
  refine oneB m g s (fun _ _ z => z) fun x α1 H1 ok1 m1 st1 s1 => ?_
  obtain ⟨n, s1⟩ := sat_ifOk.mp s1
  refine oneB m1 st1.good.right s1 (fun _ _ z => EX.on st1.right z) fun y α2 H2 ok2 m2 st2 s2 => ?_
  exact k x y α2 H2 (keep st1 ok1 st2 n) ok2 m2 (st1.right.seq st2) s2
theorem s_bin {a b : Ev.E} {o : Op2} {ea eb : Expr} {pos : Pos} (ha : SE X gl call XR W a ea) (hb : SE X gl call XR W b eb) : SE X gl call XR W (.bin o a b) (.BinOp ea o.syn eb pos) := by
  refine SE.temp (impE (pe_op o.is ha.b hb.b) fun σ H Q q => ?_) rfl (fun _ => rfl) (fun _ => rfl) fun _ _ => rfl
  obtain ⟨α, m, g, s⟩ := q
  refine two m g s fun x y α2 H2 okx oky m2 st2 s2 => ?_
  obtain ⟨z, ez, s2⟩ := sat_opt.mp s2
  exact o.ok ez okx oky fun w H3 ew f3 okw nw fw => s2 w α2 H3 ew rfl m2 (st2.right.new f3 okw nw fw)
theorem Stp.sc {K : PySem.W.Frag} {W : List Addr} {Γ Γ' : List A} {H H' : Hp} (s : Stp K W Γ H Γ' H') {w : A} (h : w.ok K H') (hi : w.er.imm = true) : Stp K W Γ H (w :: Γ') H' := s.imm h hi
theorem s_neg {a : Ev.E} {ea : Expr} {pos : Pos} (ha : SE X gl call XR W a ea) : SE X gl call XR W (.neg a) (.UnaryOp .USub ea pos) := by
  refine SE.temp (impE (pe_un un_neg ha.b) fun σ H Q q => ?_) rfl (fun _ => rfl) (fun _ => rfl) fun _ _ => rfl
  obtain ⟨α, m, g, s⟩ := q
  refine oneB m g s (fun _ _ z => z) fun x α1 H1 ok1 m1 st1 s1 => ?_
  obtain ⟨i, ei, s1⟩ := sat_opt.mp s1
  have ex : x = .int i := by
    cases x <;> simp [A.er, D.int?] at ei
    subst ei; rfl
  subst ex
  exact ⟨i, rfl, s1 (.int (-i)) α1 H1 rfl rfl m1 (st1.right.sc trivial rfl)⟩
theorem cmp_t {a b : Ev.E} {o : Cmp} {ρ : Env} : evM gl call (.cmp o a b) .t ρ = evM gl call (.cmp o a b) .v ρ := by
  show R.bind (R.bind _ _) _ = R.bind _ _
  rw [bind_assoc]
  congr 1; funext x ρ1
  rw [ifOk_bind, bind_assoc]
  congr 2; funext y ρ2
  rw [opt_bind]
  rfl
theorem chn_t {a b c : Ev.E} {o p : Cmp} {ρ : Env} : evM gl call (.chn o p a b c) .t ρ = evM gl call (.chn o p a b c) .v ρ := by
  show R.bind (R.bind _ _) _ = R.bind _ _
  rw [bind_assoc]
  congr 1; funext x ρ1
  rw [ifOk_bind, bind_assoc]
  congr 2; funext y ρ2
  rw [opt_bind]
  congr 1; funext z
  cases z with
  | false => rfl
  | true =>
    show (ifOk _ _).bind _ = ifOk _ _
    rw [ifOk_bind, bind_assoc]
    congr 2; funext w ρ3
    rw [opt_bind]
    rfl
theorem s_cmp {a b : Ev.E} {o : Cmp} {ea eb : Expr} {pos : Pos} (hu : X.A.units + 64 < cLine) (ha : SE X gl call XR W a ea) (hb : SE X gl call XR W b eb) (hm : behindInMarks o.syn eb = false) : SE X gl call XR W (.cmp o a b) (.Compare ea [o.syn] [eb] pos) := by
  have core : ∀ σ H (Q : VK), tV X.K gl call XR W (.cmp o a b) σ H Q → tOp (o.r X.K) (tB X.K gl call XR W a) (tB X.K gl call XR W b) σ H Q := by
    intro σ H Q q
    obtain ⟨α, m, g, s⟩ := q
    refine two m g s fun x y α2 H2 okx oky m2 st2 s2 => ?_
    obtain ⟨z, ez, s2⟩ := sat_opt.mp s2
    exact o.ok ez okx oky (s2 (.bl z) α2 H2 rfl rfl m2 (st2.right.sc trivial rfl))
  have hv := impE (pe_cmpR (o.opR hu) ha.b hb.b hm (pos := pos)) core
  refine ⟨hv, impE hv fun σ H Q q => ?_, fun _ => impT (pt_cmpR (o.opR hu) ha.b hb.b hm) fun σ H Q q => ?_⟩
  · obtain ⟨α, m, g, s⟩ := q
    exact ⟨α, m, g, sat_mono s (fun d ρ q x α' H' e1 e2 m' st => q x α' H' e1 e2 m' st st.good.ok.1) fun _ _ z => z⟩
  · obtain ⟨α, m, g, s⟩ := q
    rw [cmp_t] at s
    refine two (Q := fun v u H2 => o.r X.K v u H2 fun x H' => ∃ k, x = .bl k ∧ Q k H') m g s fun x y α2 H2 okx oky m2 st2 s2 => ?_
    obtain ⟨z, ez, s2⟩ := sat_opt.mp s2
    exact o.ok ez okx oky ⟨z, rfl, s2 α2 H2 rfl m2 st2.right⟩
theorem Wof_mono {q q' : Bool} {α : List A} (h : q' = true → q = true) : ∀ a ∈ Wof q α, a ∈ Wof q' α := by
  intro a m
  unfold Wof at *
  cases q <;> cases q' <;> simp_all
theorem s_chn {a b c : Ev.E} {o p : Cmp} {ea eb ec : Expr} {pos : Pos} (hu : X.A.units + 64 < cLine) (ha : SE X gl call XR W a ea) (hb : SE X gl call XR W b eb) (hc : SE X gl call XR W c ec) (hm : lastMarks [o.syn, p.syn] [eb, ec] = false) :
    SE X gl call XR W (.chn o p a b c) (.Compare ea [o.syn, p.syn] [eb, ec] pos) := by
  have core : ∀ {P : D → Env → Prop} σ α H (Q : VK), Mt σ α → Good X.K H α → (evM gl call (.chn o p a b c) .v (erL α)).sat P (EX X.K XR W σ α H) →
      (∀ k α1 H1, Mt σ α1 → Stp X.K (Wof (E.quiet (.chn o p a b c)) α) α H α1 H1 → P (.bl k) (erL α1) → Q (.bl k) H1) → tChain (o.r X.K) (p.r X.K) (tB X.K gl call XR W a) (tB X.K gl call XR W b) (tB X.K gl call XR W c) σ H Q := by
    intro P σ α H Q m g s fin
    refine two m g s fun x y α2 H2 okx oky m2 st2 s2 => ?_
    obtain ⟨z, ez, s2⟩ := sat_opt.mp s2
    refine o.ok ez okx oky ⟨z, rfl, ?_⟩
    cases z with
    | false =>
      exact fin false α2 H2 m2 (st2.right.mono (Wof_mono fun h => (Bool.and_eq_true _ _ ▸ (show ((a.quiet && b.quiet) && c.quiet) = true from h)).1)) s2
    | true =>
      have s2 : (ifOk (needs y.er b c.quiet) <| (evM gl call c .b (erL α2)).bind fun w ρ3 => opt (p.run y.er w) fun k => .ok (.bl k) ρ3).sat P (EX X.K XR W σ α H) := s2
      obtain ⟨n, s2⟩ := sat_ifOk.mp s2
      show tB X.K gl call XR W c σ H2 (fun w' H4 => p.r X.K y.val w' H4 Q)
      refine oneB m2 st2.right.good s2 (fun _ _ z => EX.on st2.right z) fun w α3 H3 okw m3 st3 s3 => ?_
      obtain ⟨k, ek, s3⟩ := sat_opt.mp s3
      exact p.ok ek (keep st2 oky st3 n) okw (fin k α3 H3 m3 (st2.right.seq st3.right) s3)
  have hv : PE X (.Compare ea [o.syn, p.syn] [eb, ec] pos) (tV X.K gl call XR W (.chn o p a b c)) := impE (pe_chain (o.opR hu) (p.opR hu) ha.b hb.b hc.b hm) fun σ H Q q => by
    obtain ⟨α, m, g, s⟩ := q
    exact core σ α H Q m g s fun k α1 H1 m1 st f => f (.bl k) α1 H1 rfl rfl m1 (st.sc trivial rfl)
  refine ⟨hv, impE hv fun σ H Q q => ?_, fun _ => impT (pt_chain (o.opR hu) (p.opR hu) ha.b hb.b hc.b hm) fun σ H Q q => ?_⟩
  · obtain ⟨α, m, g, s⟩ := q
    exact ⟨α, m, g, sat_mono s (fun d ρ q x α' H' e1 e2 m' st => q x α' H' e1 e2 m' st st.good.ok.1) fun _ _ z => z⟩
  · obtain ⟨α, m, g, s⟩ := q
    rw [chn_t] at s
    exact core σ α H _ m g s fun k α1 H1 m1 st f => ⟨k, rfl, f α1 H1 rfl m1 st⟩
theorem s_not {a : Ev.E} {ea : Expr} {pos : Pos} (ha : SE X gl call XR W a ea) (ta : a.testable = true) : SE X gl call XR W (.not a) (.UnaryOp .Not ea pos) := by
  have hv : PE X (.UnaryOp .Not ea pos) (tV X.K gl call XR W (.not a)) := impE (pe_notT ha.b) fun σ H Q q => by
    obtain ⟨α, m, g, s⟩ := q
    refine oneB m g s (fun _ _ z => z) fun x α1 H1 ok1 m1 st1 s1 => ?_
    obtain ⟨k, ek, s1⟩ := sat_opt.mp s1
    exact ⟨k, truth_ok ek ok1, s1 (.bl (!k)) α1 H1 rfl rfl m1 (st1.right.sc trivial rfl)⟩
  refine ⟨hv, impE hv fun σ H Q q => ?_, fun _ => impT (pt_not (ha.t ta)) fun σ H Q q => ?_⟩
  · obtain ⟨α, m, g, s⟩ := q
    exact ⟨α, m, g, sat_mono s (fun d ρ q x α' H' e1 e2 m' st => q x α' H' e1 e2 m' st st.good.ok.1) fun _ _ z => z⟩
  · obtain ⟨α, m, g, s⟩ := q
    exact oneT m g s (fun _ _ z => z) fun d α1 H1 m1 st1 s1 => s1 α1 H1 rfl m1 st1
theorem s_and {a b : Ev.E} {ea eb : Expr} {rest : List Expr} {pos : Pos} (ha : SE X gl call XR W a ea) (hbv : PE X (.BoolOp .And (eb :: rest) pos) (tV X.K gl call XR W b)) (ta : a.testable = true)
    (hbt : PW X (.BoolOp .And (eb :: rest) pos) (tT X.K gl call XR W b)) :
    PE X (.BoolOp .And (ea :: eb :: rest) pos) (tV X.K gl call XR W (.and a b)) ∧ PW X (.BoolOp .And (ea :: eb :: rest) pos) (tT X.K gl call XR W (.and a b)) := by
  refine ⟨impE (pe_andT ha.v hbv) fun σ H Q q => ?_, ?_⟩
  · obtain ⟨α, m, g, s⟩ := q
    refine oneV m g s (fun _ _ z => z) fun x α1 H1 m1 st1 s1 => ?_
    obtain ⟨k, ek, s1⟩ := sat_opt.mp s1
    refine ⟨k, truth_ok ek st1.good.ok.1, ?_⟩
    cases k with
    | false => exact s1 x α1 H1 rfl rfl m1 (st1.mono (Wof_mono fun h => by simp [E.quiet] at h; exact h.1))
    | true =>
      have st1' : Stp X.K (Wof a.quiet α) α H α1 H1 := Stp.right (Δ := [x]) st1
      have s1 : (evM gl call b .v (erL α1)).sat _ _ := s1
      exact lastV m1 st1'.good s1 (fun _ _ z => EX.on st1' z) fun y α2 H2 m2 st2 f => f y α2 H2 rfl rfl m2 (st1'.seq st2)
  · have h := pw_and (ha.t ta) hbt
    refine ⟨fun wh pins s σ H Q I q => h.run wh pins s σ H Q I ?_⟩
    obtain ⟨α, m, g, s⟩ := q
    refine oneT m g s (fun _ _ z => z) fun d α1 H1 m1 st1 s1 => ?_
    cases hd : d.isT with
    | false =>
      rw [hd] at s1
      exact s1 α1 H1 rfl m1 (st1.mono (Wof_mono fun h => by simp [E.quiet] at h; exact h.1))
    | true =>
      rw [hd] at s1
      have s1 : (evM gl call b .t (erL α1)).sat _ _ := s1
      exact lastT m1 st1.good s1 (fun _ _ z => EX.on st1 z) fun y α2 H2 m2 st2 f => f α2 H2 rfl m2 (st1.seq st2)
theorem s_or {a b : Ev.E} {ea eb : Expr} {rest : List Expr} {pos : Pos} (ha : SE X gl call XR W a ea) (hbv : PE X (.BoolOp .Or (eb :: rest) pos) (tV X.K gl call XR W b)) (ta : a.testable = true)
    (hbt : PW X (.BoolOp .Or (eb :: rest) pos) (tT X.K gl call XR W b)) :
    PE X (.BoolOp .Or (ea :: eb :: rest) pos) (tV X.K gl call XR W (.or a b)) ∧ PW X (.BoolOp .Or (ea :: eb :: rest) pos) (tT X.K gl call XR W (.or a b)) := by
  refine ⟨impE (pe_orT ha.v hbv) fun σ H Q q => ?_, ?_⟩
  · obtain ⟨α, m, g, s⟩ := q
    refine oneV m g s (fun _ _ z => z) fun x α1 H1 m1 st1 s1 => ?_
    obtain ⟨k, ek, s1⟩ := sat_opt.mp s1
    refine ⟨k, truth_ok ek st1.good.ok.1, ?_⟩
    cases k with
    | true => exact s1 x α1 H1 rfl rfl m1 (st1.mono (Wof_mono fun h => by simp [E.quiet] at h; exact h.1))
    | false =>
      have st1' : Stp X.K (Wof a.quiet α) α H α1 H1 := Stp.right (Δ := [x]) st1
      have s1 : (evM gl call b .v (erL α1)).sat _ _ := s1
      exact lastV m1 st1'.good s1 (fun _ _ z => EX.on st1' z) fun y α2 H2 m2 st2 f => f y α2 H2 rfl rfl m2 (st1'.seq st2)
  · have h := pw_or (ha.t ta) hbt
    refine ⟨fun wh pins s σ H Q I q => h.run wh pins s σ H Q I ?_⟩
    obtain ⟨α, m, g, s⟩ := q
    refine oneT m g s (fun _ _ z => z) fun d α1 H1 m1 st1 s1 => ?_
    cases hd : d.isT with
    | true =>
      rw [hd] at s1
      exact s1 α1 H1 rfl m1 (st1.mono (Wof_mono fun h => by simp [E.quiet] at h; exact h.1))
    | false =>
      rw [hd] at s1
      have s1 : (evM gl call b .t (erL α1)).sat _ _ := s1
      exact lastT m1 st1.good s1 (fun _ _ z => EX.on st1 z) fun y α2 H2 m2 st2 f => f α2 H2 rfl m2 (st1.seq st2)
theorem s_boolop {e : Ev.E} {op : BoolOp} {es : List Expr} {pos : Pos} (h : PE X (.BoolOp op es pos) (tV X.K gl call XR W e) ∧ PW X (.BoolOp op es pos) (tT X.K gl call XR W e)) (ht : e.temp = true) (hb : ∀ ρ, evM gl call e .b ρ = evM gl call e .v ρ) : SE X gl call XR W e (.BoolOp op es pos) := by
  refine ⟨h.1, impE h.1 fun σ H Q q => ?_, fun _ => h.2.pt⟩
  obtain ⟨α, m, g, s⟩ := q
  rw [hb] at s
  exact ⟨α, m, g, sat_mono s (fun d ρ q x α' H' e1 e2 m' st => q x α' H' e1 e2 m' (by unfold own; rw [ht]; exact st) st.good.ok.1) fun _ _ z => z⟩
theorem s_ite {c a b : Ev.E} {ec ea eb : Expr} {pos : Pos} (hc : SE X gl call XR W c ec) (tc : c.testable = true) (ha : SE X gl call XR W a ea) (hb : SE X gl call XR W b eb) : SE X gl call XR W (.ite c a b) (.IfExp ec ea eb pos) := by
  refine SE.temp (impE (pe_ifExp (hc.t tc) ha.v hb.v) fun σ H Q q => ?_) rfl (fun _ => rfl) (fun _ => rfl) fun h => by simp [E.testable] at h
  obtain ⟨α, m, g, s⟩ := q
  refine oneT m g s (fun _ _ z => z) fun d α1 H1 m1 st1 s1 => ?_
  cases hd : d.isT with
  | true =>
    rw [hd] at s1
    have s1 : (evM gl call a .v (erL α1)).sat _ _ := s1
    exact lastV m1 st1.good s1 (fun _ _ z => EX.on st1 z) fun y α2 H2 m2 st2 f => f y α2 H2 rfl rfl m2 ((st1.seq st2).mono (Wof_mono fun h => by simp [E.quiet] at h ⊢; exact h.1))
  | false =>
    rw [hd] at s1
    have s1 : (evM gl call b .v (erL α1)).sat _ _ := s1
    exact lastV m1 st1.good s1 (fun _ _ z => EX.on st1 z) fun y α2 H2 m2 st2 f => f y α2 H2 rfl rfl m2 ((st1.seq st2).mono (Wof_mono fun h => by simp [E.quiet] at h ⊢; exact ⟨h.1.1, h.2⟩))
theorem idx_bind {a i : Ev.E} (md : Md) (ρ : Env) : evM gl call (.idx a i) md ρ = (evM gl call (.idx a i) .b ρ).bind fun d ρ' => md.plc d ρ' := by
  show R.bind _ _ = R.bind (R.bind _ _) _
  rw [bind_assoc]
  congr 1; funext x ρ1
  rw [ifOk_bind, bind_assoc]
  congr 2; funext k ρ2
  rw [opt_bind]
  rfl
theorem s_idx {a i : Ev.E} {ea ei : Expr} {pos : Pos} (ha : SE X gl call XR W a ea) (hi : SE X gl call XR W i ei) (hp : plainE ei = true) : SE X gl call XR W (.idx a i) (.Subscript ea ei pos) := by
  refine SE.plc (impE (pe_ix ix_seq ha.b hi.v (plainIx hp)) fun σ H Q q => ?_) rfl idx_bind fun _ => rfl
  obtain ⟨α, m, g, s⟩ := q
  refine oneB m g s (fun _ _ z => z) fun x α1 H1 ok1 m1 st1 s1 => ?_
  obtain ⟨n, s1⟩ := sat_ifOk.mp s1
  refine oneV m1 st1.good.right s1 (fun _ _ z => EX.on st1.right z) fun k α2 H2 m2 st2 s2 => ?_
  obtain ⟨d, ed, s2⟩ := sat_opt.mp s2
  have st2' : Stp X.K (Wof i.quiet α1) α1 H1 α2 H2 := Stp.right (Δ := [k]) st2
  exact item_ok ed (keep st1 ok1 st2 n) fun y ey oky => s2 y α2 H2 ey rfl m2 (st1.right.seq st2') oky
/-- a bound of a slice -/
theorem bound {e : Ev.E} {t : TO} {σ : St} {α : List A} {H : Hp} {K : PySem.W.Frag} {β : Type} {P : β → Env → Prop} {E : Ex → Env → Prop} {F : Option Int → Env → R β} {R : Option Int → Hp → Prop}
    (k : (e = .part ∧ t = tNoPart) ∨ (e ≠ .part ∧ t = tPart (tV K gl call XR W e))) (m : Mt σ α) (g : Good K H α)
    (s : ((evM gl call e .v (erL α)).bind fun d ρ => opt (partOf e d) fun l => F l ρ).sat P E) (hE : ∀ x ρ, E x ρ → EX K XR W σ α H x ρ)
    (q : ∀ o α2 H2, Mt σ α2 → Stp K (Wof e.quiet α) α H α2 H2 → (F o (erL α2)).sat P E → R o H2) : t σ H R := by
  rcases k with ⟨rfl, rfl⟩ | ⟨ne, rfl⟩
  · exact q none α H m (Stp.refl g) s
  · refine oneV m g s hE fun x α1 H1 m1 st1 s1 => ?_
    obtain ⟨l, el, s1⟩ := sat_opt.mp s1
    have e2 : partOf e x.er = x.er.int?.map some := by cases e <;> first | rfl | exact absurd rfl ne
    rw [e2] at el
    obtain ⟨i, ei, e3⟩ := Option.map_eq_some_iff.mp el
    have ex : x = .int i := by
      cases x <;> simp [A.er, D.int?] at ei
      subst ei; rfl
    subst ex e3
    exact ⟨i, rfl, q (some i) α1 H1 m1 (Stp.right (Δ := [A.int i]) st1) s1⟩
theorem s_slc {a lo hi : Ev.E} {ea : Expr} {el eh : Option Expr} {p2 pos : Pos} {tl th : TO} (ha : SE X gl call XR W a ea) (hl : PO X el tl) (hh : PO X eh th)
    (kl : (lo = .part ∧ tl = tNoPart) ∨ (lo ≠ .part ∧ tl = tPart (tV X.K gl call XR W lo))) (kh : (hi = .part ∧ th = tNoPart) ∨ (hi ≠ .part ∧ th = tPart (tV X.K gl call XR W hi))) :
    SE X gl call XR W (.slc a lo hi) (.Subscript ea (.Slice el eh none p2) pos) := by
  refine SE.temp (impE (pe_slice sl_any ha.b hl hh) fun σ H Q q => ?_) rfl (fun _ => rfl) (fun _ => rfl) fun _ _ => rfl
  obtain ⟨α, m, g, s⟩ := q
  refine oneB m g s (fun _ _ z => z) fun x α1 H1 ok1 m1 st1 s1 => ?_
  obtain ⟨n, s1⟩ := sat_ifOk.mp s1
  refine bound kl m1 st1.good.right s1 (fun _ _ z => EX.on st1.right z) fun l α2 H2 m2 st2 s2 => ?_
  have st12 := st1.right.seq st2
  refine bound kh m2 st2.good s2 (fun _ _ z => EX.on st12 z) fun h α3 H3 m3 st3 s3 => ?_
  obtain ⟨z, ez, s3⟩ := sat_opt.mp s3
  have st13 := st12.seq st3
  have st23 : Stp X.K (Wof (lo.quiet && hi.quiet) α1) α1 H1 α3 H3 := st2.seq st3
  refine slice_ok ez (keep st1 ok1 st23 n) fun w H4 ew f4 okw nw fw => s3 w α3 H4 ew rfl m3 (Stp.new ?_ f4 okw nw fw)
  exact st13
/-- argument lists -/
def tEs (K : PySem.W.Frag) (gl : Nat → Option D) (call : Nat → List D → R D) (XR : XRel) (W : WX) (es : Ev.Es) : TA := fun σ H Q => ∃ α, Mt σ α ∧ Good K H α ∧
  (evEs gl call es (erL α)).sat (fun ds ρ => ∀ xs α' H', erL xs = ds → erL α' = ρ → Mt σ α' → Stp K (Wof es.quiet α) α H (xs ++ α') H' → Q (xs.map A.val) H') (EX K XR W σ α H)
theorem impA {X : Cx} {ex : List Expr} {t t' : TA} (h : PA X ex t) (f : ∀ σ H Q, t' σ H Q → t σ H Q) : PA X ex t' :=
  ⟨fun pos pins s σ H Q I q => h.run pos pins s σ H Q I (f σ H Q q)⟩
theorem s_nilE : PA X [] (tEs X.K gl call XR W .nil) := impA pa_nil fun σ H Q q => by
  obtain ⟨α, m, g, s⟩ := q
  exact s [] α H rfl rfl m (Stp.refl g)
theorem s_consE {e : Ev.E} {es : Ev.Es} {ex : Expr} {exs : List Expr} (he : SE X gl call XR W e ex) (hes : PA X exs (tEs X.K gl call XR W es)) (hp : plainE ex = true) : PA X (ex :: exs) (tEs X.K gl call XR W (.cons e es)) := by
  refine impA (pa_cons he.v hes (starCons hp)) fun σ H Q q => ?_
  obtain ⟨α, m, g, s⟩ := q
  refine oneV m g s (fun _ _ z => z) fun x α1 H1 m1 st1 s1 => ?_
  have st1' : Stp X.K (Wof e.quiet α) α H α1 H1 := Stp.right (Δ := [x]) st1
  refine ⟨α1, m1, st1'.good, sat_mono (sat_bind.mp s1) (fun ds ρ f xs α2 H2 e1 e2 m2 st2 => ?_) fun _ _ z => EX.on st1' z⟩
  have f : ∀ xs α' H', erL xs = x.er :: ds → erL α' = ρ → Mt σ α' → Stp X.K (Wof (e.quiet && es.quiet) α) α H (xs ++ α') H' → Q (xs.map A.val) H' := f
  refine f (x :: xs) α2 H2 (by rw [erL, e1]) e2 m2 ?_
  have st2' : Stp X.K (Wof es.quiet α1) (x :: α1) H1 (x :: (xs ++ α2)) H2 := Stp.frame (Δ := [x]) st1.good st2 Wof_sub
  refine (st1.mono ?_).trans st2' ?_
  · exact Wof_mono fun h => by rw [Bool.and_eq_true] at h; exact h.1
  · intro a m
    cases hq : es.quiet with
    | true => rw [hq] at m; unfold Wof at m; simp at m
    | false =>
      unfold Wof
      rw [Bool.and_false]
      simp only [Bool.false_eq_true, if_false]
      exact st1'.wsub a (Wof_sub a m)
theorem s_tup {es : Ev.Es} {exs : List Expr} {x1 pos} (h : PA X exs (tEs X.K gl call XR W es)) : SE X gl call XR W (.tup es) (.Tuple exs x1 pos) := by
  refine SE.temp (impE (pe_tup h) fun σ H Q q => ?_) rfl (fun _ => rfl) (fun _ => rfl) fun _ _ => rfl
  obtain ⟨α, m, g, s⟩ := q
  refine ⟨α, m, g, sat_mono (sat_bind.mp s) (fun ds ρ f xs α1 H1 e1 e2 m1 st1 => ?_) fun _ _ z => z⟩
  obtain ⟨hl, f⟩ := sat_ifOk.mp f
  rw [← e1, erL_length, fits_iff] at hl
  refine ⟨by rw [List.length_map, ← line_eq]; exact hl, fun p hp => ?_⟩
  have fr : Fr [] H1 (upd H1 p (.tup (xs.map A.val))) := .new hp
  have gx := okL_append.mp st1.good.ok
  have np : ∀ a, H1 a ≠ none → a ≠ p := fun a n e => n (by rw [e]; exact hp)
  refine f (.tup p xs) α1 _ (by rw [← e1]; rfl) e2 m1 (st1.trans (W' := []) ⟨⟨⟨⟨SqT.of upd_same, hl, okL_grow fr gx.1⟩, okL_grow fr gx.2⟩, ?_⟩, fr, ?_⟩ (by simp))
  · have := st1.good.nd
    rw [footL_append] at this
    exact this
  · intro a m
    rw [footL_append]
    exact .inl m
theorem s_lst {es : Ev.Es} {exs : List Expr} {pos} (h : PA X exs (tEs X.K gl call XR W es)) : SE X gl call XR W (.lst es) (.List exs pos) := by
  refine SE.temp (impE (pe_lst h) fun σ H Q q => ?_) rfl (fun _ => rfl) (fun _ => rfl) fun _ _ => rfl
  obtain ⟨α, m, g, s⟩ := q
  refine ⟨α, m, g, sat_mono (sat_bind.mp s) (fun ds ρ f xs α1 H1 e1 e2 m1 st1 => ?_) fun _ _ z => z⟩
  obtain ⟨hl, f⟩ := sat_ifOk.mp f
  rw [← e1, erL_length, fits_iff] at hl
  refine ⟨by rw [List.length_map, ← line_eq]; exact hl, fun p hp => ?_⟩
  have fr : Fr [] H1 (upd H1 p (.lst (xs.map A.val))) := .new hp
  have gx := okL_append.mp st1.good.ok
  have nf : p ∉ (footL (xs ++ α1)).map (·.2) := fun m => by
    obtain ⟨q, mq, e⟩ := List.mem_map.mp m
    exact (footL_at _ st1.good.ok q mq).1 (by rw [e]; exact hp)
  refine f (.lst p xs) α1 _ (by rw [← e1]; rfl) e2 m1 (st1.trans (W' := []) ⟨⟨⟨⟨upd_same, hl, okL_grow fr gx.1⟩, okL_grow fr gx.2⟩, ?_⟩, fr, ?_⟩ (by simp))
  · have := st1.good.nd
    rw [footL_append] at this nf
    show (((true, p) :: footL xs ++ footL α1).map (·.2)).Nodup
    exact List.nodup_cons.mpr ⟨nf, this⟩
  · intro a m
    rw [footL_append]
    rcases List.mem_cons.mp (show a ∈ (true, p) :: (footL xs ++ footL α1) from m) with e | m
    · subst e; exact .inr hp
    · exact .inl m
end
end Ev
end

section
set_option Elab.async false
set_option linter.all false
set_option maxRecDepth 100000
/-! EvB7: built-in calls, isinstance. -/
namespace Ev
open PySem L2
theorem ints_er : ∀ {xs : List A} {ns : List Int}, D.ints (erL xs) = some ns → xs = ns.map A.int
  | [], ns, h => by
    simp [erL, D.ints] at h
    subst h; rfl
  | x :: xs, ns, h => by
    rw [erL] at h
    cases x <;> simp [A.er, D.ints] at h
    obtain ⟨ms, e, rfl⟩ := h
    rw [ints_er e]; rfl
theorem map_int_val (ns : List Int) : (ns.map A.int).map A.val = ns.map V.int := by
  rw [List.map_map]; rfl
def Blt.fn : Blt → Bool
  | .len | .abs | .max | .min | .sum | .sorted => true
  | _ => false
def Blt.nm : Blt → String
  | .len => "len" | .abs => "abs" | .max => "max" | .min => "min" | .sum => "sum" | .sorted => "sorted"
  | .int => "int" | .tuple => "tuple" | .list => "list" | .bool => "bool" | .str => "str"
  | .sset => "" | .lset => ""
/-- the value of the built-in's name -/
def Blt.vl (b : Blt) : Value := if b.fn = true then .builtin b.nm else .type b.nm
def Blt.r (K : PySem.W.Frag) : Blt → List V → Hp → VK → Prop
  | .len => fun xs H Q => ∃ x n, xs = [x] ∧ LenV K x H n ∧ Q (.int n) H
  | .abs => fun xs H Q => ∃ i, xs = [.int i] ∧ Q (.int (if i < 0 then -i else i)) H
  | .max => fun xs H Q => (∃ i j, xs = [.int i, .int j] ∧ Q (.int (if j > i then j else i)) H) ∨ rMM K Max.max xs H Q
  | .min => fun xs H Q => (∃ i j, xs = [.int i, .int j] ∧ Q (.int (if j < i then j else i)) H) ∨ rMM K Min.min xs H Q
  | .sum => rSum K
  | .int => fun xs H Q => (∃ i, xs = [.int i] ∧ Q (.int i) H) ∨ ∃ k, xs = [.bl k] ∧ Q (.int (if k then 1 else 0)) H
  | .bool => fun xs H Q => (∃ i, xs = [.int i] ∧ Q (.bl (i != 0)) H) ∨ ∃ k, xs = [.bl k] ∧ Q (.bl k) H
  | .tuple => fun xs H Q => ∃ p ys, xs = [.ref p] ∧ ((SqL K H p ys ∧ ∀ l, H l = none → Q (.ref l) (upd H l (.tup ys))) ∨ (SqT K H p ys ∧ Q (.ref p) H))
  | .list => fun xs H Q => ∃ p ys, xs = [.ref p] ∧ (SqL K H p ys ∨ SqT K H p ys) ∧ ∀ l, H l = none → Q (.ref l) (upd H l (.lst ys))
  | _ => fun _ _ _ => False
theorem noCall {X : Cx} {f : Value} : CallR X f fun _ _ _ => False := fun _ _ _ _ _ _ _ _ _ h => h.elim
theorem Blt.is {X : Cx} (hc : X.calm = true) (hu : X.A.units + 64 < cLine) (b : Blt) : CallR X b.vl (b.r X.K) := by
  cases b
  · exact call_len
  · exact call_int1
  · exact call_abs
  · exact (call_max2 hc).or (cr_maxI hc hu)
  · exact (call_min2 hc).or (cr_minI hc hu)
  · exact cr_sum hc
  · exact call_tuple_of
  · exact call_list_of
  · exact noCall
  · exact noCall
  · exact call_bool1
  · exact noCall
  · exact noCall
theorem er1 {xs : List A} {d : D} (h : erL xs = [d]) : ∃ x, xs = [x] ∧ x.er = d := by
  match xs, h with
  | [x], h => exact ⟨x, rfl, by simpa [erL] using h⟩
  | [], h => simp [erL] at h
  | _ :: _ :: _, h => simp [erL] at h
theorem er2 {xs : List A} {d e : D} (h : erL xs = [d, e]) : ∃ x y, xs = [x, y] ∧ x.er = d ∧ y.er = e := by
  match xs, h with
  | [x, y], h => exact ⟨x, y, rfl, by simpa [erL] using h⟩
  | [], h => simp [erL] at h
  | [_], h => simp [erL] at h
  | _ :: _ :: _ :: _, h => simp [erL] at h
theorem Blt.ok {K : PySem.W.Frag} {H : Hp} {z : D} {Q : VK} (b : Blt) {xs : List A} (h : b.run (erL xs) = some z) (hx : okL K H xs) (q : Out K H z Q) : b.r K (xs.map A.val) H Q := by
  have mm : ∀ {f : Int → Int → Int} {a : Addr} {ys : List A} {g : List Int → Option Int}, (∀ n ns, g (n :: ns) = some (ns.foldl f n)) → g [] = none → ((D.ints (erL ys)).bind fun ns => (g ns).map D.int) = some z → (SqL K H a (ys.map A.val) ∨ SqT K H a (ys.map A.val)) → rMM K f [.ref a] H Q := by
    intro f a ys g hg h0 h hs
    obtain ⟨ns, e1, e2⟩ := Option.bind_eq_some_iff.mp h
    obtain ⟨k, e3, e4⟩ := Option.map_eq_some_iff.mp e2
    have e := ints_er e1
    subst e
    rw [map_int_val] at hs
    cases ns with
    | nil => rw [h0] at e3; cases e3
    | cons n ns =>
      rw [hg] at e3
      cases e3
      subst e4
      exact ⟨a, n, ns, rfl, hs, q.int⟩
  unfold Blt.run at h
  split at h
  · rename_i e
    obtain ⟨x, rfl, e0⟩ := er1 e
    obtain ⟨a, ys, rfl, rfl⟩ := er_tup e0
    have hy := hx.1
    rw [A.ok] at hy
    cases h
    rw [erL_length] at q
    exact ⟨_, _, rfl, .inr ⟨_, hy.1, rfl⟩, by rw [List.length_map]; exact q.int⟩
  · rename_i e
    obtain ⟨x, rfl, e0⟩ := er1 e
    obtain ⟨a, ys, rfl, rfl⟩ := er_lst e0
    have hy := A.seqL hx.1 (.inl rfl)
    cases h
    rw [erL_length] at q
    exact ⟨_, _, rfl, .inl ⟨_, hy.2.1, rfl⟩, by rw [List.length_map]; exact q.int⟩
  · rename_i e
    obtain ⟨x, rfl, e0⟩ := er1 e
    obtain ⟨a, ys, er', rfl⟩ := er_rol e0
    have hy := A.seqL hx.1 (.inr er')
    cases h
    rw [erL_length] at q
    refine ⟨_, ys.length, rfl, ?_, q.int⟩
    show LenV K x.val H ys.length
    rw [hy.1]
    exact .inl ⟨_, hy.2.1, by rw [List.length_map]⟩
  · rename_i s e
    obtain ⟨x, rfl, e0⟩ := er1 e
    split at h
    · rename_i hl
      cases h
      rw [er_str e0]
      exact ⟨_, _, rfl, ⟨by rw [← line_eq]; exact hl, rfl⟩, q.int⟩
    · cases h
  · rename_i e
    obtain ⟨x, rfl, e0⟩ := er1 e
    rw [er_int e0]; cases h
    exact .inl ⟨_, rfl, q.int⟩
  · rename_i e
    obtain ⟨x, rfl, e0⟩ := er1 e
    rw [er_bl e0]; cases h
    exact .inr ⟨_, rfl, q.int⟩
  · rename_i e
    obtain ⟨x, rfl, e0⟩ := er1 e
    rw [er_int e0]; cases h
    exact ⟨_, rfl, q.int⟩
  · rename_i e
    obtain ⟨x, y, rfl, e1, e2⟩ := er2 e
    rw [er_int e1, er_int e2]; cases h
    exact .inl ⟨_, _, rfl, q.int⟩
  · rename_i e
    obtain ⟨x, y, rfl, e1, e2⟩ := er2 e
    rw [er_int e1, er_int e2]; cases h
    exact .inl ⟨_, _, rfl, q.int⟩
  · rename_i e
    obtain ⟨x, rfl, e0⟩ := er1 e
    obtain ⟨a, ys, rfl, rfl⟩ := er_lst e0
    exact .inr (mm (fun _ _ => rfl) rfl h (.inl (A.seqL hx.1 (.inl rfl)).2.1))
  · rename_i e
    obtain ⟨x, rfl, e0⟩ := er1 e
    obtain ⟨a, ys, rfl, rfl⟩ := er_tup e0
    have hy := hx.1
    rw [A.ok] at hy
    exact .inr (mm (fun _ _ => rfl) rfl h (.inr hy.1))
  · rename_i e
    obtain ⟨x, rfl, e0⟩ := er1 e
    obtain ⟨a, ys, rfl, rfl⟩ := er_lst e0
    exact .inr (mm (fun _ _ => rfl) rfl h (.inl (A.seqL hx.1 (.inl rfl)).2.1))
  · rename_i e
    obtain ⟨x, rfl, e0⟩ := er1 e
    obtain ⟨a, ys, rfl, rfl⟩ := er_tup e0
    have hy := hx.1
    rw [A.ok] at hy
    exact .inr (mm (fun _ _ => rfl) rfl h (.inr hy.1))
  · rename_i e
    obtain ⟨x, rfl, e0⟩ := er1 e
    obtain ⟨a, ys, rfl, rfl⟩ := er_lst e0
    obtain ⟨ns, e1, e2⟩ := Option.map_eq_some_iff.mp h
    have e := ints_er e1
    subst e e2
    have hy := (A.seqL hx.1 (.inl rfl)).2.1
    rw [map_int_val] at hy
    exact ⟨a, ns, rfl, hy, q.int⟩
  · rename_i e
    obtain ⟨x, rfl, e0⟩ := er1 e
    obtain ⟨a, ys, rfl, rfl⟩ := er_lst e0
    split at h
    · rename_i hi
      cases h
      have hy := A.seqL hx.1 (.inl rfl)
      exact ⟨a, _, rfl, .inl ⟨hy.2.1, fun l hl => q.tup hl hi hy.2.2.2 hy.2.2.1⟩⟩
    · cases h
  · rename_i e
    obtain ⟨x, rfl, e0⟩ := er1 e
    obtain ⟨a, ys, er', rfl⟩ := er_rol e0
    split at h
    · rename_i hi
      cases h
      have hy := A.seqL hx.1 (.inr er')
      exact ⟨a, _, by rw [List.map_cons, hy.1]; rfl, .inl ⟨hy.2.1, fun l hl => q.tup hl hi hy.2.2.2 hy.2.2.1⟩⟩
    · cases h
  · rename_i e
    obtain ⟨x, rfl, e0⟩ := er1 e
    obtain ⟨a, ys, rfl, rfl⟩ := er_tup e0
    split at h
    · rename_i hi
      cases h
      have hy := hx.1
      rw [A.ok] at hy
      exact ⟨a, _, rfl, .inr ⟨hy.1, Out.imm (x := .tup a ys) q hx.1 (by simp [A.er, D.imm, hi])⟩⟩
    · cases h
  · rename_i e
    obtain ⟨x, rfl, e0⟩ := er1 e
    obtain ⟨a, ys, rfl, rfl⟩ := er_lst e0
    split at h
    · rename_i hi
      cases h
      have hy := A.seqL hx.1 (.inl rfl)
      exact ⟨a, _, rfl, .inl hy.2.1, fun l hl => q.lst hl hi hy.2.2.2 hy.2.2.1⟩
    · cases h
  · rename_i e
    obtain ⟨x, rfl, e0⟩ := er1 e
    obtain ⟨a, ys, er', rfl⟩ := er_rol e0
    split at h
    · rename_i hi
      cases h
      have hy := A.seqL hx.1 (.inr er')
      exact ⟨a, _, by rw [List.map_cons, hy.1]; rfl, .inl hy.2.1, fun l hl => q.lst hl hi hy.2.2.2 hy.2.2.1⟩
    · cases h
  · rename_i e
    obtain ⟨x, rfl, e0⟩ := er1 e
    obtain ⟨a, ys, rfl, rfl⟩ := er_tup e0
    split at h
    · rename_i hi
      cases h
      have hy := hx.1
      rw [A.ok] at hy
      exact ⟨a, _, rfl, .inr hy.1, fun l hl => q.lst hl hi hy.2.2 hy.2.1⟩
    · cases h
  · rename_i e
    obtain ⟨x, rfl, e0⟩ := er1 e
    rw [er_int e0]; cases h
    exact .inl ⟨_, rfl, q.bl⟩
  · rename_i e
    obtain ⟨x, rfl, e0⟩ := er1 e
    rw [er_bl e0]; cases h
    exact .inr ⟨_, rfl, q.bl⟩
  · cases h
section
variable {X : Cx} {gl : Nat → Option D} {call : Nat → List D → R D} {XR : XRel} {W : WX}
/-- borrowed arguments -/
def tBs (K : PySem.W.Frag) (gl : Nat → Option D) (call : Nat → List D → R D) (XR : XRel) (W : WX) (es : Ev.Es) : TA := fun σ H Q => ∃ α, Mt σ α ∧ Good K H α ∧
  (evBs gl call es (erL α)).sat (fun ds ρ => ∀ xs α' H', erL xs = ds → erL α' = ρ → Mt σ α' → Stp K (Wof es.quiet α) α H α' H' → okL K H' xs → Q (xs.map A.val) H') (EX K XR W σ α H)
theorem s_nilB : PA X [] (tBs X.K gl call XR W .nil) := impA pa_nil fun σ H Q q => by
  obtain ⟨α, m, g, s⟩ := q
  exact s [] α H rfl rfl m (Stp.refl g) trivial
theorem s_consB {e : Ev.E} {es : Ev.Es} {ex : Expr} {exs : List Expr} (he : SE X gl call XR W e ex) (hes : PA X exs (tBs X.K gl call XR W es)) (hp : plainE ex = true) : PA X (ex :: exs) (tBs X.K gl call XR W (.cons e es)) := by
  refine impA (pa_cons he.b hes (starCons hp)) fun σ H Q q => ?_
  obtain ⟨α, m, g, s⟩ := q
  refine oneB m g s (fun _ _ z => z) fun x α1 H1 ok1 m1 st1 s1 => ?_
  obtain ⟨n, s1⟩ := sat_ifOk.mp s1
  refine ⟨α1, m1, st1.right.good, sat_mono (sat_bind.mp s1) (fun ds ρ f xs α2 H2 e1 e2 m2 st2 ok2 => ?_) fun _ _ z => EX.on st1.right z⟩
  have f : ∀ xs α' H', erL xs = x.er :: ds → erL α' = ρ → Mt σ α' → Stp X.K (Wof (e.quiet && es.quiet) α) α H α' H' → okL X.K H' xs → Q (xs.map A.val) H' := f
  exact f (x :: xs) α2 H2 (by rw [erL, e1]) e2 m2 (st1.right.seq st2) ⟨keep st1 ok1 st2 n, ok2⟩
theorem s_blt {b : Blt} {e : Ev.E} {es : Ev.Es} {ex : Expr} {exs : List Expr} {x : Str} {p pos : Pos} (hc : X.calm = true) (hu : X.A.units + 64 < cLine) (h : PA X (ex :: exs) (tBs X.K gl call XR W es)) (hp : (ex :: exs).all plainE = true)
    (hg : Gl X x) (hm : X.mg x = none) (hv : bootBuiltins x = some b.vl) (hn : x ≠ "__name__") (hd : (x == ("__debug__" : Str)) = false) : SE X gl call XR W (.blt b es) (.Call (.Name x p) (ex :: exs) [] pos) := by
  rw [List.all_cons, Bool.and_eq_true] at hp
  have hb := Blt.is (X := X) hc hu b
  have hP : PE X (.Call (.Name x p) (ex :: exs) [] pos) (tCB (b.r X.K) (tBs X.K gl call XR W es)) := by
    unfold Blt.vl at hb hv
    split at hb
    · rename_i hf
      rw [if_pos hf] at hv
      exact pe_callB hb hg hm hv h hn hd (starCons hp.1) (starAny hp.2 pos)
    · rename_i hf
      rw [if_neg hf] at hv
      exact pe_callTy hb hg hm hv h hn hd (starCons hp.1) (starAny hp.2 pos)
  refine SE.temp (impE hP fun σ H Q q => ?_) rfl (fun _ => rfl) (fun _ => rfl) fun _ _ => rfl
  obtain ⟨α, m, g, s⟩ := q
  refine ⟨α, m, g, sat_mono (sat_bind.mp s) (fun ds ρ f xs α1 H1 e1 e2 m1 st1 ok1 => ?_) fun _ _ z => z⟩
  obtain ⟨z, ez, f⟩ := sat_opt.mp f
  rw [← e1] at ez
  exact b.ok ez ok1 fun w H2 ew f2 okw nw fw => f w α1 H2 ew e2 m1 (st1.new f2 okw nw fw)
/-- a built-in type as an argument -/
theorem pe_ty {t : Ty} {x : Str} {pos : Pos} (hg : Gl X x) (hm : X.mg x = none) (hv : bootBuiltins x = some (.type t.nm)) (hn : x ≠ "__name__") (hd : (x == ("__debug__" : Str)) = false) : PE X (.Name x pos) (tC (.ty t.nm)) :=
  pe_bltn hg hm hv rfl hn hd
theorem s_isi {a : Ev.E} {t : Ty} {ea : Expr} {x y : Str} {p p2 pos : Pos} (ha : SE X gl call XR W a ea) (hp : plainE ea = true) (hg : Gl X x) (hm : X.mg x = none) (hv : bootBuiltins x = some (.builtin "isinstance")) (hn : x ≠ "__name__") (hd : (x == ("__debug__" : Str)) = false)
    (ht : PE X (.Name y p2) (tC (.ty t.nm))) : SE X gl call XR W (.isi a t) (.Call (.Name x p) [ea, .Name y p2] [] pos) := by
  refine SE.temp (impE (pe_callB call_isi hg hm hv (pa_cons ha.b (pa_cons ht pa_nil) (starCons hp)) hn hd (starCons hp) rfl) fun σ H Q q => ?_) rfl (fun _ => rfl) (fun _ => rfl) fun _ _ => rfl
  obtain ⟨α, m, g, s⟩ := q
  show tB X.K gl call XR W a σ H (fun x H1 => rIsi X.K [x, V.ty t.nm] H1 Q)
  refine oneB m g s (fun _ _ z => z) fun x α1 H1 ok1 m1 st1 s1 => ?_
  obtain ⟨b, eb, s1⟩ := sat_opt.mp s1
  exact ⟨_, _, _, _, b, rfl, .ty t.nm, A.tyx ok1 (of_isNo eb), kit_ty (kitB_ok t x.er b eb), s1 (.bl b) α1 H1 rfl rfl m1 (st1.right.sc trivial rfl)⟩
theorem pa_tys : ∀ {ts : List Ty} {xs : List Expr}, Paired (fun (t : Ty) ex => plainE ex = true ∧ PE X ex (tC (.ty t.nm))) ts xs → ∃ t, PA X xs t ∧ ∀ σ H Q, Q (ts.map fun t => V.ty t.nm) H → t σ H Q
  | [], [], _ => ⟨_, pa_nil, fun _ _ _ q => q⟩
  | t :: ts, x :: xs, .cons h r => by
    obtain ⟨tt, h1, h2⟩ := pa_tys r
    exact ⟨_, pa_cons h.2 h1 (starCons h.1), fun σ H Q q => h2 σ H _ q⟩
theorem clsV_all : ∀ ts : List Ty, Paired ClsV (ts.map fun t => V.ty t.nm) (ts.map fun t => Value.type t.nm)
  | [] => .nil
  | t :: ts => .cons (.ty t.nm) (clsV_all ts)
theorem s_isis {a : Ev.E} {ts : List Ty} {ea : Expr} {exs : List Expr} {k : Nat} {x : Str} {p p2 pos : Pos} (ha : SE X gl call XR W a ea) (hp : plainE ea = true) (hg : Gl X x) (hm : X.mg x = none) (hv : bootBuiltins x = some (.builtin "isinstance")) (hn : x ≠ "__name__")
    (hd : (x == ("__debug__" : Str)) = false) (ht : Paired (fun (t : Ty) ex => plainE ex = true ∧ PE X ex (tC (.ty t.nm))) ts exs) (hne : ts ≠ []) (hl : ts.length ≤ 100) : SE X gl call XR W (.isis a ts) (.Call (.Name x p) [ea, .Tuple exs k p2] [] pos) := by
  obtain ⟨tt, h1, h2⟩ := pa_tys ht
  refine SE.temp (impE (pe_callB call_isiT hg hm hv (pa_cons ha.b (pa_cons (pe_tup h1) pa_nil) (starCons hp)) hn hd (starCons hp) rfl) fun σ H Q q => ?_) rfl (fun _ => rfl) (fun _ => rfl) fun _ _ => rfl
  obtain ⟨α, m, g, s⟩ := q
  show tB X.K gl call XR W a σ H (fun x H1 => tTup tt σ H1 fun y H2 => rIsiT X.K [x, y] H2 Q)
  refine oneB m g s (fun _ _ z => z) fun x α1 H1 ok1 m1 st1 s1 => ?_
  obtain ⟨b, eb, s1⟩ := sat_opt.mp s1
  refine h2 σ H1 _ ⟨by rw [List.length_map, sizeLine_eq]; omega, fun tp htp => ?_⟩
  have f : Fr [] H1 (upd H1 tp (.tup (ts.map fun t => V.ty t.nm))) := .new htp
  refine ⟨_, tp, _, _, _, b, rfl, upd_same, clsV_all ts, A.tyx (ok_grow f ok1) (isIs_isNo eb hne), isIs_kit eb, s1 (.bl b) α1 _ rfl rfl m1 ?_⟩
  exact st1.right.new f trivial List.nodup_nil (by simp [A.foot])
end
end Ev
end

section
set_option Elab.async false
set_option linter.all false
set_option maxRecDepth 100000
/-! EvB8: calls of the text's own defs. -/
namespace Ev
open PySem L2
/-- parameters behind a call stand where they stood -/
inductive Bk : List V → List A → Prop
  | nil : Bk [] []
  | cons {v : V} {vs : List V} {y : A} {ys : List A} : (y = .no ∨ y.val = v) → Bk vs ys → Bk (v :: vs) (y :: ys)
theorem Bk.refl : ∀ xs : List A, Bk (xs.map A.val) xs
  | [] => .nil
  | x :: xs => .cons (.inr rfl) (Bk.refl xs)
/-- what a def promises: what the evaluator tells -/
def spC (K : PySem.W.Frag) (XR : XRel) (call : Nat → List D → R D) (f : Nat) : Sp := fun vs H Q E => ∃ αs, vs = αs.map A.val ∧ Good K H αs ∧
  (call f (erL αs)).sat (fun d ds => ∀ x αs' H', x.er = d → erL αs' = ds → Bk vs αs' → Stp K (wrL αs) αs H (x :: αs') H' → Q x.val H')
    (fun ex ds => ∀ cls dd αs' H', XR ex cls dd H' → erL αs' = ds → Bk vs αs' → Stp K (wrL αs) αs H αs' H' → E cls dd H')
abbrev B := Option Nat × A
def erB (b : B) : Option Nat × D := (b.1, b.2.er)
def ownB : List B → List A
  | [] => []
  | (none, x) :: r => x :: ownB r
  | (some _, _) :: r => ownB r
inductive VB (σ : St) : List B → List V → Prop
  | nil : VB σ [] []
  | val {x : A} {bs : List B} {vs : List V} : VB σ bs vs → VB σ ((none, x) :: bs) (x.val :: vs)
  | lent {i : Nat} {v : V} {bs : List B} {vs : List V} : σ[i]? = some (some v) → VB σ bs vs → VB σ ((some i, .no) :: bs) (v :: vs)
section
variable {K : PySem.W.Frag} {σ : St} {H : Hp}
theorem Good.perm {Γ Γ' : List A} (g : Good K H Γ) (ho : okL K H Γ') (hf : (footL Γ).Perm (footL Γ')) : Good K H Γ' :=
  g.sub ho ⟨[], by rw [List.append_nil]; exact hf⟩
theorem takeL_ok : ∀ {bs : List B} {vs : List V} {α : List A} {ds : List D} {ρ2 : Env}, VB σ bs vs → Mt σ α → Good K H (ownB bs ++ α) → takeL (bs.map erB) (erL α) = some (ds, ρ2) →
    ∃ αs α2, erL αs = ds ∧ erL α2 = ρ2 ∧ αs.map A.val = vs ∧ Mt σ α2 ∧ okL K H (α2 ++ αs) ∧ (footL (ownB bs ++ α)).Perm (footL (α2 ++ αs))
  | [], _, α, ds, ρ2, .nil, m, g, h => by
    simp [takeL] at h
    obtain ⟨rfl, rfl⟩ := h
    exact ⟨[], α, rfl, rfl, rfl, m, by simpa [ownB] using g.ok, by simp [ownB]⟩
  | _ :: bs, _, α, ds, ρ2, .val (x := x) (vs := vs) hv, m, g, h => by
    simp only [List.map_cons, erB, takeL] at h
    obtain ⟨p, e1, e2⟩ := Option.map_eq_some_iff.mp h
    obtain ⟨ds', ρ'⟩ := p
    cases e2
    have g' : Good K H (ownB bs ++ α) := g.tail
    obtain ⟨αs, α2, a1, a2, a3, a4, a5, a6⟩ := takeL_ok hv m g' e1
    have a5' := okL_append.mp a5
    refine ⟨x :: αs, α2, by rw [erL, a1], a2, by rw [List.map_cons, a3], a4, okL_append.mpr ⟨a5'.1, g.ok.1, a5'.2⟩, ?_⟩
    show (x.foot ++ footL (ownB bs ++ α)).Perm _
    rw [footL_append α2, footL]
    rw [footL_append α2] at a6
    exact (List.Perm.append_left _ a6).trans (by rw [← List.append_assoc, ← List.append_assoc]; exact List.Perm.append_right _ List.perm_append_comm)
  | _ :: bs, _, α, ds, ρ2, .lent (i := i) (v := v) (vs := vs) hi hv, m, g, h => by
    simp only [List.map_cons, erB, takeL] at h
    cases e0 : rd (erL α) i with
    | none => rw [e0] at h; simp at h
    | some d =>
      rw [e0] at h
      simp only at h
      obtain ⟨p, e1, e2⟩ := Option.map_eq_some_iff.mp h
      obtain ⟨ds', ρ'⟩ := p
      cases e2
      obtain ⟨y, y1, y2, y3⟩ := rd_at m e0
      have hval : y.val = v := by rw [y3] at hi; cases hi; rfl
      have eno : (erL α).set i .no = erL (α.set i .no) := by rw [erL_set]; rfl
      rw [eno] at e1
      obtain ⟨l, pl, ql⟩ := footL_set y1
      have p1 : (footL (ownB bs ++ α)).Perm (y.foot ++ footL (ownB bs ++ α.set i .no)) := by
        rw [footL_append, footL_append]
        refine (List.Perm.append_left _ (pl.trans (List.Perm.append_left _ (show l.Perm _ by simpa [A.foot] using (ql .no).symm)))).trans ?_
        rw [← List.append_assoc, ← List.append_assoc]
        exact List.Perm.append_right _ List.perm_append_comm
      have g0 : Good K H (ownB bs ++ α) := g
      have gs : Good K H (ownB bs ++ α.set i .no) :=
        g0.sub (okL_append.mpr ⟨(okL_append.mp g0.ok).1, okL_set (okL_append.mp g0.ok).2 trivial⟩) ⟨y.foot, p1.trans List.perm_append_comm⟩
      obtain ⟨αs, α2, a1, a2, a3, a4, a5, a6⟩ := takeL_ok hv m.set_no gs e1
      have a5' := okL_append.mp a5
      have oy : y.ok K H := okL_iff.mp (okL_append.mp g0.ok).2 y (List.mem_of_getElem? y1)
      refine ⟨y :: αs, α2, by rw [erL, a1, y2], a2, by rw [List.map_cons, a3, hval], a4, okL_append.mpr ⟨a5'.1, oy, a5'.2⟩, ?_⟩
      show (footL (ownB bs ++ α)).Perm _
      refine p1.trans ((List.Perm.append_left _ a6).trans ?_)
      rw [footL_append, footL_append, footL, ← List.append_assoc, ← List.append_assoc]
      exact List.Perm.append_right _ List.perm_append_comm
theorem giveL_ok : ∀ {bs : List B} {vs : List V} {αs' α2 Δ : List A}, VB σ bs vs → Bk vs αs' → Mt σ α2 → Good K H (Δ ++ (αs' ++ α2)) →
    ∃ α3, erL α3 = giveL (bs.map erB) (erL αs') (erL α2) ∧ Mt σ α3 ∧ Good K H (Δ ++ α3) ∧ ∀ a ∈ footL α3, a ∈ footL (αs' ++ α2)
  | [], _, _, α2, Δ, .nil, .nil, m, g => ⟨α2, rfl, m, g, fun a q => q⟩
  | _ :: bs, _, _, α2, Δ, .val (x := x) (vs := vs) hv, .cons (y := y) (ys := ys) hy hb, m, g => by
    have g' : Good K H (Δ ++ (ys ++ α2)) := by
      have go := okL_append.mp g.ok
      refine g.sub (okL_append.mpr ⟨go.1, go.2.2⟩) ⟨y.foot, ?_⟩
      rw [footL_append Δ, footL_append Δ, List.append_assoc]
      exact List.Perm.append_left _ (show (y.foot ++ footL (ys ++ α2)).Perm _ from List.perm_append_comm)
    obtain ⟨α3, a1, a2, a3, a4⟩ := giveL_ok hv hb m g'
    exact ⟨α3, by rw [a1]; rfl, a2, a3, fun a q => List.mem_append_right _ (a4 a q)⟩
  | _ :: bs, _, _, α2, Δ, .lent (i := i) (v := v) (vs := vs) hi hv, .cons (y := y) (ys := ys) hy hb, m, g => by
    have g' : Good K H ((Δ ++ [y]) ++ (ys ++ α2)) := by rw [List.append_assoc]; exact g
    obtain ⟨α3, a1, a2, a3, a4⟩ := giveL_ok hv hb m g'
    rw [List.append_assoc] at a3
    have go := okL_append.mp a3.ok
    refine ⟨α3.set i y, ?_, ?_, ?_, ?_⟩
    · rw [erL_set, a1]; rfl
    · refine ⟨by rw [List.length_set]; exact a2.len, fun j z hz => ?_⟩
      by_cases e : i = j
      · subst e
        by_cases hl : i < α3.length
        · rw [List.getElem?_set_self hl] at hz
          cases hz
          rcases hy with hy | hy
          · exact .inl hy
          · rw [hy]; exact .inr hi
        · rw [List.getElem?_eq_none (by simpa using hl)] at hz; cases hz
      · rw [List.getElem?_set_ne e] at hz
        exact a2.at_ j z hz
    · refine a3.sub (okL_append.mpr ⟨go.1, okL_set go.2.2 go.2.1⟩) ?_
      by_cases hl : i < α3.length
      · obtain ⟨l, pl, ql⟩ := footL_set (α := α3) (i := i) (x := α3[i]) (by simp [hl])
        refine ⟨(α3[i]).foot, ?_⟩
        rw [footL_append Δ, footL_append Δ, List.append_assoc]
        refine List.Perm.append_left _ (show (y.foot ++ footL α3).Perm _ from ?_)
        refine (List.Perm.append_left _ (pl.trans List.perm_append_comm)).trans ?_
        rw [← List.append_assoc]
        exact List.Perm.append_right _ (ql y).symm
      · refine ⟨y.foot, ?_⟩
        rw [List.set_eq_of_length_le (by omega), footL_append Δ, footL_append Δ, List.append_assoc]
        exact List.Perm.append_left _ (show (y.foot ++ footL α3).Perm _ from List.perm_append_comm)
    · intro a ma
      show a ∈ y.foot ++ footL (ys ++ α2)
      obtain ⟨z, mz, za⟩ := mem_footL.mp ma
      rcases List.mem_or_eq_of_mem_set mz with q | q
      · exact List.mem_append_right _ (a4 a (mem_footL.mpr ⟨z, q, za⟩))
      · subst q; exact List.mem_append_left _ za
end
section
variable {X : Cx} {gl : Nat → Option D} {call : Nat → List D → R D} {XR : XRel} {W : WX}
/-- arguments of a call -/
def tAs (K : PySem.W.Frag) (gl : Nat → Option D) (call : Nat → List D → R D) (XR : XRel) (W : WX) (es : Ev.Es) : TA := fun σ H Q => ∃ α, Mt σ α ∧ Good K H α ∧
  (evAs gl call es (erL α)).sat (fun as ρ => ∀ bs vs α' H', bs.map erB = as → erL α' = ρ → Mt σ α' → VB σ bs vs → Stp K (wrL α) α H (ownB bs ++ α') H' → Q vs H') (EX K XR W σ α H)
theorem s_nilA : PA X [] (tAs X.K gl call XR W .nil) := impA pa_nil fun σ H Q q => by
  obtain ⟨α, m, g, s⟩ := q
  exact s [] [] α H rfl rfl m .nil (Stp.refl g)
theorem EX.onF {K : PySem.W.Frag} {σ : St} {α α1 : List A} {H H1 : Hp} (s : Stp K (wrL α) α H α1 H1) {x : Ex} {ρ : Env} (h : EX K XR W σ α H x ρ) : EX K XR W σ α1 H1 x ρ :=
  fun cls dd α' H' r e m t => h cls dd α' H' r e m (s.trans t s.wsub)
theorem s_consA {e : Ev.E} {es : Ev.Es} {ex : Expr} {exs : List Expr} (hl : e.lent? = none) (he : SE X gl call XR W e ex) (hes : PA X exs (tAs X.K gl call XR W es)) (hp : plainE ex = true) : PA X (ex :: exs) (tAs X.K gl call XR W (.cons e es)) := by
  refine impA (pa_cons he.v hes (starCons hp)) fun σ H Q q => ?_
  obtain ⟨α, m, g, s⟩ := q
  have eqA : evAs gl call (.cons e es) (erL α) = (evM gl call e .v (erL α)).bind fun d ρ1 => (evAs gl call es ρ1).bind fun ds ρ2 => R.ok ((none, d) :: ds) ρ2 := by
    show (match e.lent? with | some i => _ | none => _) = _
    rw [hl]
  rw [eqA] at s
  refine oneV m g s (fun _ _ z => z) fun x α1 H1 m1 st1 s1 => ?_
  have st1' : Stp X.K (Wof e.quiet α) α H α1 H1 := Stp.right (Δ := [x]) st1
  refine ⟨α1, m1, st1'.good, sat_mono (sat_bind.mp s1) (fun as ρ f bs vs α2 H2 e1 e2 m2 vb st2 => ?_) fun _ _ z => EX.on st1' z⟩
  subst e1 e2
  refine f ((none, x) :: bs) (x.val :: vs) α2 H2 rfl rfl m2 (.val vb) ?_
  exact (st1.mono Wof_sub).trans (Stp.frame (Δ := [x]) st1.good st2 fun _ q => q) fun a q => st1'.wsub a q
theorem s_lentA {i : Nat} {es : Ev.Es} {x : Str} {pos : Pos} {exs : List Expr} (hN : X.N[i]? = some x) (hv : Vis X.env.scope x) (hd : (x == ("__debug__" : Str)) = false) (hcd : (x == ("__classdict__" : Str)) = false) (hes : PA X exs (tAs X.K gl call XR W es)) :
    PA X (.Name x pos :: exs) (tAs X.K gl call XR W (.cons (.lend i) es)) := by
  refine impA (pa_cons (pe_var hN hv hd hcd) hes (starCons rfl)) fun σ H Q q => ?_
  obtain ⟨α, m, g, s⟩ := q
  obtain ⟨d, ed, s⟩ := sat_opt.mp s
  obtain ⟨y, y1, y2, y3⟩ := rd_at m ed
  refine ⟨_, y3, α, m, g, sat_mono (sat_bind.mp s) (fun as ρ f bs vs α2 H2 e1 e2 m2 vb st2 => ?_) fun _ _ z => z⟩
  subst e1 e2
  exact f ((some i, .no) :: bs) (y.val :: vs) α2 H2 rfl rfl m2 (.lent y3 vb) st2
/-- a def of the text, known to the evaluator -/
structure FnAt (X : Cx) (XR : XRel) (call : Nat → List D → R D) (f : Nat) (x : Str) : Prop where
  ex : ∃ (k : Nat) (a : Addr) (fd : FuncData) (ps : List Str), X.mg x = some (.ref a) ∧ PySem.W.keepIn X.K (.ref a) = true ∧ Binds X.K fd ps [] ∧ FnOk X.prog X.w X.K X.mg X.base (L2.CX X.prog X.w) k a fd ps (spC X.K XR call f) ∧ Room k X.A
theorem pe_call0S {CX : CXT} {k : Nat} {f : Addr} {fd : FuncData} {ps : List Str} {sp : Sp} {E : L2.St → XK} {x : Str} {p pos : Pos} (F : FnOk X.prog X.w X.K X.mg X.base CX k f fd ps sp) (hr : Room k X.A) (hg : Gl X x) (hm : X.mg x = some (.ref f)) (hk : PySem.W.keepIn X.K (.ref f) = true)
    (hb : Binds X.K fd ps []) (hx : ∀ σ, PassesAt CX X σ (E σ)) (hdb : (x == ("__debug__" : Str)) = false) : PE X (.Call (.Name x p) [] [] pos) (tCallS sp E tNil) := by
  refine ⟨fun pins s σ H Q I h => ?_⟩
  refine wpAny_Call_Name_kw (ld_glob I hg hm ?_ hdb)
  exact PySem.W.callWith_K0 I.kIn hk (run_fnS (us := []) F hr hb (hx σ) I .nil h)
/-- the heart of a call -/
theorem call_core {σ : St} {α : List A} {H : Hp} {Q : VK} {f : Nat} {bs : List B} {vs : List V} {α1 : List A} {H1 : Hp} {K : PySem.W.Frag} (m1 : Mt σ α1) (vb : VB σ bs vs) (st1 : Stp K (wrL α) α H (ownB bs ++ α1) H1)
    (s : (callR call f (bs.map erB) (erL α1)).sat (fun d ρ => ∀ x α' H', x.er = d → erL α' = ρ → Mt σ α' → Stp K (wrL α) α H (x :: α') H' → Q x.val H') (EX K XR W σ α H)) : spC K XR call f vs H1 Q (WE W σ) := by
  obtain ⟨q, eq, s⟩ := sat_opt.mp s
  obtain ⟨ds, ρ2⟩ := q
  obtain ⟨αs, α2, a1, a2, a3, a4, a5, a6⟩ := takeL_ok vb m1 st1.good eq
  subst a1 a2
  have g2 : Good K H1 (α2 ++ αs) := st1.good.perm a5 a6
  have gs : Good K H1 αs := g2.right
  have st2 : Stp K (wrL α) α H (α2 ++ αs) H1 := st1.trans (W' := wrL α) (stp_same g2 fun a m => a6.mem_iff.mpr m) fun a m => .inl m
  have wsub : ∀ a ∈ wrL αs, a ∈ wrL α ∨ H a = none := fun a m => st2.wsub a (mem_wrL.mpr (by rw [footL_append]; exact List.mem_append_right _ (mem_wrL.mp m)))
  refine ⟨αs, a3.symm, gs, ?_⟩
  cases hc : call f (erL αs) with
  | st => rw [hc] at s; exact s
  | ok d ds' =>
    rw [hc] at s
    intro x αs' H2 e1 e2 bk st3
    subst e1 e2
    have st4 := Stp.frame (Δ := α2) g2 st3 (fun _ q => q)
    have g4 : Good K H2 ([x] ++ (αs' ++ α2)) := by
      have go := okL_append.mp st4.good.ok
      refine st4.good.perm (show okL K H2 (x :: (αs' ++ α2)) from ⟨go.2.1, okL_append.mpr ⟨go.2.2, go.1⟩⟩) ?_
      rw [footL_append]
      show (footL α2 ++ (x.foot ++ footL αs')).Perm (x.foot ++ footL (αs' ++ α2))
      rw [footL_append]
      exact List.perm_append_comm.trans (by rw [List.append_assoc])
    obtain ⟨α3, b1, b2, b3, b4⟩ := giveL_ok vb bk a4 g4
    refine s x α3 H2 rfl b1 b2 (st2.trans (W' := wrL αs) ⟨b3, st4.fr, fun a m => ?_⟩ wsub)
    rcases List.mem_append.mp (show a ∈ x.foot ++ footL α3 from m) with m | m
    · exact st4.ft a (by rw [footL_append]; exact List.mem_append_right _ (List.mem_append_left _ m))
    · refine st4.ft a ?_
      have := b4 a m
      rw [footL_append] at this ⊢
      rcases List.mem_append.mp this with m | m
      · exact List.mem_append_right _ (List.mem_append_right _ m)
      · exact List.mem_append_left _ m
  | rz ex ds' =>
    rw [hc] at s
    intro cls dd αs' H2 xr e2 bk st3
    subst e2
    have st4 := Stp.frame (Δ := α2) g2 st3 (fun _ q => q)
    have g4 : Good K H2 ([] ++ (αs' ++ α2)) := by
      have go := okL_append.mp st4.good.ok
      refine st4.good.perm (show okL K H2 (αs' ++ α2) from okL_append.mpr ⟨go.2, go.1⟩) ?_
      rw [footL_append, List.nil_append, footL_append]
      exact List.perm_append_comm
    obtain ⟨α3, b1, b2, b3, b4⟩ := giveL_ok vb bk a4 g4
    refine s cls dd α3 H2 xr b1 b2 (st2.trans (W' := wrL αs) ⟨b3, st4.fr, fun a m => st4.ft a ?_⟩ wsub)
    have := b4 a m
    rw [footL_append] at this ⊢
    exact (List.mem_append.mp this).elim (List.mem_append_right _) (List.mem_append_left _)
theorem s_call {f : Nat} {es : Ev.Es} {exs : List Expr} {x : Str} {p pos : Pos} (tk : Takes X W) (F : FnAt X XR call f x) (h0 : exs = [] → es = .nil) (h : PA X exs (tAs X.K gl call XR W es)) (hp : exs.all plainE = true) (hg : Gl X x) (hd : (x == ("__debug__" : Str)) = false) :
    SE X gl call XR W (.call f es) (.Call (.Name x p) exs [] pos) := by
  obtain ⟨k, a, fd, ps, hm, hk, hb, FO, hr⟩ := F.ex
  have core : ∀ {t : TA}, (∀ σ H Q, tAs X.K gl call XR W es σ H Q → t σ H Q) → ∀ σ H Q, tV X.K gl call XR W (.call f es) σ H Q → tCallS (spC X.K XR call f) (WE W) t σ H Q := by
    intro t ht σ H Q q
    obtain ⟨α, m, g, s⟩ := q
    refine ht σ H _ ⟨α, m, g, sat_mono (sat_bind.mp s) (fun as ρ f bs vs α1 H1 e1 e2 m1 vb st1 => ?_) fun _ _ z => z⟩
    subst e1 e2
    exact call_core m1 vb st1 f
  have hP : PE X (.Call (.Name x p) exs [] pos) (tV X.K gl call XR W (.call f es)) := by
    cases exs with
    | nil =>
      refine impE (pe_call0S FO hr hg hm hk hb (passAt tk) hd) (core fun σ H Q q => ?_)
      rw [h0 rfl] at q
      obtain ⟨α, m, g, s⟩ := q
      exact s [] [] α H rfl rfl m .nil (Stp.refl g)
    | cons e exs =>
      rw [List.all_cons, Bool.and_eq_true] at hp
      exact impE (pe_callS FO hr hg hm hk hb (passAt tk) h hd (starCons hp.1) (starAny hp.2 pos)) (core fun _ _ _ q => q)
  exact SE.temp hP rfl (fun _ => rfl) (fun _ => rfl) fun _ _ => rfl
end
end Ev
end

section
set_option Elab.async false
set_option linter.all false
set_option maxRecDepth 100000
/-! EvB9: targets, what is walked. -/
namespace Ev
open PySem L2
/-- slots that may not be stored stay -/
def KeepS (ok : Nat → Bool) (σ σ' : L2.St) : Prop := σ'.length = σ.length ∧ ∀ i, ok i = false → σ'[i]? = σ[i]?
theorem KeepS.refl {ok : Nat → Bool} {σ : L2.St} : KeepS ok σ σ := ⟨rfl, fun _ _ => rfl⟩
theorem KeepS.trans {ok : Nat → Bool} {σ σ1 σ2 : L2.St} (a : KeepS ok σ σ1) (b : KeepS ok σ1 σ2) : KeepS ok σ σ2 := ⟨b.1.trans a.1, fun i h => (b.2 i h).trans (a.2 i h)⟩
/-- a value stored into a slot -/
theorem Good.store {K : PySem.W.Frag} {H : Hp} {α : List A} {i : Nat} {x : A} (g : Good K H (x :: α)) (hi : i < α.length) : Good K H (α.set i x) ∧ ∀ p ∈ footL (α.set i x), p ∈ footL (x :: α) := by
  obtain ⟨l, pl, ql⟩ := footL_set (α := α) (i := i) (x := α[i]) (by simp [hi])
  have pp : (footL (x :: α)).Perm (footL (α.set i x) ++ (α[i]).foot) := by
    show (x.foot ++ footL α).Perm _
    refine (List.Perm.append_left _ (pl.trans List.perm_append_comm)).trans ?_
    rw [← List.append_assoc]
    exact List.Perm.append_right _ (ql x).symm
  exact ⟨g.sub (okL_set g.ok.2 g.ok.1) ⟨_, pp⟩, fun p m => pp.mem_iff.mpr (List.mem_append_left _ m)⟩
theorem Mt.store {σ : L2.St} {α : List A} {i : Nat} {x : A} (m : Mt σ α) : Mt (σ.set i (some x.val)) (α.set i x) := by
  refine ⟨by rw [List.length_set, List.length_set]; exact m.len, fun j z h => ?_⟩
  by_cases e : i = j
  · subst e
    by_cases hl : i < α.length
    · rw [List.getElem?_set_self hl] at h
      cases h
      rw [List.getElem?_set_self (by rw [m.len]; exact hl)]
      exact .inr rfl
    · rw [List.getElem?_eq_none (by simpa using hl)] at h; cases h
  · rw [List.getElem?_set_ne e] at h ⊢
    exact m.at_ j z h
section
variable (K : PySem.W.Frag) (ok : Nat → Bool)
def tG (tg : Tg) : TG := fun v σ H Q => ∃ x α ρ, v = x.val ∧ Mt σ α ∧ Good K H (x :: α) ∧ stT ok tg x.er (erL α) = some ρ ∧
  ∀ σ' α', erL α' = ρ → Mt σ' α' → Good K H α' → (∀ p ∈ footL α', p ∈ footL (x :: α)) → KeepS ok σ σ' → Q σ' H
def tGs (ts : Tgs) : TGs := fun vs σ H Q => ∃ xs α ρ, vs = xs.map A.val ∧ Mt σ α ∧ Good K H (xs ++ α) ∧ stTs ok ts (erL xs) (erL α) = some ρ ∧
  ∀ σ' α', erL α' = ρ → Mt σ' α' → Good K H α' → (∀ p ∈ footL α', p ∈ footL (xs ++ α)) → KeepS ok σ σ' → Q σ' H
end
theorem impG {X : Cx} {ex : Expr} {t t' : TG} (h : PG X ex t) (f : ∀ v σ H Q, t' v σ H Q → t v σ H Q) : PG X ex t' :=
  ⟨fun pins s σ H v u Q I r q => h.run pins s σ H v u Q I r (f v σ H Q q)⟩
theorem impGs {X : Cx} {ex : List Expr} {t t' : TGs} (h : PGs X ex t) (f : ∀ v σ H Q, t' v σ H Q → t v σ H Q) : PGs X ex t' :=
  ⟨fun pins s σ H v u Q I r q => h.run pins s σ H v u Q I r (f v σ H Q q)⟩
section
variable {X : Cx} {ok : Nat → Bool}
theorem s_nm {i : Nat} {x : Str} {pos : Pos} (hN : X.N.Nodup) (hi : X.N[i]? = some x) (hx : Loc X.env.scope x) (hf : X.fn x = true ∨ X.env.scope.names.lookup x = some .local) : PG X (.Name x pos) (tG X.K ok (.nm i)) := by
  refine impG (pg_name hN hi hx hf) fun v σ H Q q => ?_
  obtain ⟨y, α, ρ, rfl, m, g, s, k⟩ := q
  simp only [stT] at s
  split at s
  · rename_i c
    cases s
    rw [erL_length] at c
    have gs := g.store c.1
    refine k _ (α.set i y) (erL_set _ _ _) m.store gs.1 gs.2 ⟨by rw [List.length_set], fun j hj => ?_⟩
    have : i ≠ j := fun e => by subst e; rw [c.2] at hj; cases hj
    exact List.getElem?_set_ne this
  · cases s
theorem assignCons {e : Expr} {es : List Expr} {env : PySem.Env} (h : plainE e = true) : (assignEach (e :: es) env).map (·.2) = assign e env :: (assignEach es env).map (·.2) := by
  cases e <;> first | rfl | (simp [plainE] at h)
theorem assignLen {es : List Expr} {env : PySem.Env} : (assignEach es env).length = es.length := by
  induction es with
  | nil => rfl
  | cons e es ih => cases e <;> (show (_ :: assignEach es env).length = _; rw [List.length_cons, ih]; rfl)
theorem assignNone {es : List Expr} {env : PySem.Env} (h : es.all plainE = true) : (assignEach es env).findIdx? (·.1) = none := by
  have f : ∀ es : List Expr, es.all plainE = true → ∀ p ∈ assignEach es env, p.1 = false := by
    intro es
    induction es with
    | nil => intro _ p m; cases m
    | cons e es ih =>
      intro h p m
      rw [List.all_cons, Bool.and_eq_true] at h
      have : assignEach (e :: es) env = (false, assign e env) :: assignEach es env := by
        cases e <;> first | rfl | (simp [plainE] at h)
      rw [this] at m
      rcases List.mem_cons.mp m with q | q
      · rw [q]
      · exact ih h.2 p q
  rw [List.findIdx?_eq_none_iff]
  exact fun p m => f es h p m
theorem s_nilG : PGs X [] (tGs X.K ok .nil) := impGs pgs_nil fun vs σ H Q q => by
  obtain ⟨xs, α, ρ, rfl, m, g, s, k⟩ := q
  cases xs with
  | cons x xs => simp [erL, stTs] at s
  | nil =>
    simp [erL, stTs] at s
    exact ⟨rfl, k σ α s m g (fun _ h => h) .refl⟩
theorem s_consG {t : Tg} {ts : Tgs} {e : Expr} {es : List Expr} (h1 : PG X e (tG X.K ok t)) (h2 : PGs X es (tGs X.K ok ts)) (hp : plainE e = true) : PGs X (e :: es) (tGs X.K ok (.cons t ts)) := by
  refine impGs (pgs_cons h1 h2 (assignCons hp)) fun vs σ H Q q => ?_
  obtain ⟨xs, α, ρ, rfl, m, g, s, k⟩ := q
  cases xs with
  | nil => simp [erL, stTs] at s
  | cons x xs =>
    simp only [erL, stTs] at s
    obtain ⟨ρ1, e1, e2⟩ := Option.bind_eq_some_iff.mp s
    have g0 : Good X.K H (x :: (xs ++ α)) := g
    -- the first one is stored; the others wait beside
    have g1 : Good X.K H (x :: α) := by
      refine g0.sub ⟨g0.ok.1, (okL_append.mp g0.ok.2).2⟩ ⟨footL xs, ?_⟩
      show (x.foot ++ footL (xs ++ α)).Perm _
      rw [footL_append]
      show (x.foot ++ (footL xs ++ footL α)).Perm ((x.foot ++ footL α) ++ footL xs)
      rw [List.append_assoc]
      exact List.Perm.append_left _ List.perm_append_comm
    refine ⟨x.val, xs.map A.val, rfl, x, α, ρ1, rfl, m, g1, e1, fun σ1 α1 a1 m1 gg sub kp => ?_⟩
    subst a1
    have g2 : Good X.K H (xs ++ α1) := by
      have gf : Good X.K H (xs ++ (x :: α)) := by
        refine g0.sub (okL_append.mpr ⟨(okL_append.mp g0.ok.2).1, g0.ok.1, (okL_append.mp g0.ok.2).2⟩) ⟨[], ?_⟩
        rw [List.append_nil, footL_append]
        show (x.foot ++ footL (xs ++ α)).Perm (footL xs ++ (x.foot ++ footL α))
        rw [footL_append, ← List.append_assoc, ← List.append_assoc]
        exact List.Perm.append_right _ List.perm_append_comm
      exact (Stp.frame (W := []) gf (stp_same gg sub) (by simp)).good
    refine ⟨xs, α1, ρ, rfl, m1, g2, e2, fun σ2 α2 b1 b2 b3 b4 b5 => k σ2 α2 b1 b2 b3 (fun p mp => ?_) (kp.trans b5)⟩
    have := b4 p mp
    rw [footL_append] at this
    show p ∈ x.foot ++ footL (xs ++ α)
    rw [footL_append]
    rcases List.mem_append.mp this with h | h
    · exact List.mem_append_right _ (List.mem_append_left _ h)
    · rcases List.mem_append.mp (show p ∈ x.foot ++ footL α from sub p h) with h | h
      · exact List.mem_append_left _ h
      · exact List.mem_append_right _ (List.mem_append_right _ h)
theorem s_tupG {ts : Tgs} {es : List Expr} {k : Nat} {pos : Pos} (hc : X.calm = true) (h : PGs X es (tGs X.K ok ts)) (hp : es.all plainE = true) (hl : es.length = ts.len) : PG X (.Tuple es k pos) (tG X.K ok (.tup ts)) := by
  refine impG (pg_tup (n := es.length) hc h assignLen (assignNone hp)) fun v σ H Q q => ?_
  obtain ⟨x, α, ρ, rfl, m, g, s, kk⟩ := q
  simp only [stT] at s
  split at s
  · rename_i ds e
    obtain ⟨a, xs, rfl, rfl⟩ := er_tup e
    split at s
    · rename_i hn
      have hx := g.ok.1
      rw [A.ok] at hx
      have g2 : Good X.K H (xs ++ α) := by
        refine g.sub (okL_append.mpr ⟨hx.2.2, g.ok.2⟩) ⟨[], ?_⟩
        rw [List.append_nil, footL_append]
        exact .refl _
      refine ⟨a, _, rfl, hx.1, by rw [List.length_map, ← erL_length, hn, hl], xs, α, ρ, rfl, m, g2, s, fun σ' α' a1 a2 a3 a4 a5 => kk σ' α' a1 a2 a3 (fun p mp => ?_) a5⟩
      have := a4 p mp
      rw [footL_append] at this
      exact this
    · cases s
  · cases s
end

/-! ### what is walked -/
structure Walk (K : PySem.W.Frag) (J : L2.It) (xs : List A) (src : A) (α1 : List A) (H1 : Hp) : Prop where
  wk : ∀ i H, src.ok K H → (∀ x, xs[i]? = some x → J.go i H ∧ ∀ v H', J.yld i H v H' → H' = H ∧ v = x.val) ∧ (xs.length ≤ i → J.stop i H)
  ok : src.ok K H1
  ap : ∀ p ∈ src.foot, p.2 ∉ wrL α1
  oks : okL K H1 xs
  imm : D.immL (erL xs) = true
  len : xs.length ≤ line
theorem Walk.on {K : PySem.W.Frag} {J : L2.It} {xs : List A} {src : A} {α1 αk : List A} {H1 Hk : Hp} (w : Walk K J xs src α1 H1) (g : Good K H1 α1) (s : Stp K (wrL α1) α1 H1 αk Hk) : src.ok K Hk ∧ okL K Hk xs :=
  ⟨ok_fr s.fr g.wr src w.ok w.ap, ok_frL s.fr g.wr xs w.oks (by rw [imm_footL xs w.imm]; simp)⟩
/-- what is frozen while it is walked -/
def Froz (K : PySem.W.Frag) (α : List A) (H : Hp) (fz : Option Nat) (α1 : List A) (H1 : Hp) : Prop :=
  (fz = none ∧ Stp K (wrL α) α H α1 H1) ∨
    ∃ i a ys α0, fz = some i ∧ Stp K (wrL α) α H α0 H1 ∧ α0[i]? = some (.lst a ys) ∧ D.immL (erL ys) = true ∧ α1 = α0.set i (.rol a ys)
theorem thaw_ok {K : PySem.W.Frag} {σ σk : L2.St} {α α1 αk Δ : List A} {H H1 Hk : Hp} {fz : Option Nat} {ρ' : Env} (F : Froz K α H fz α1 H1) (g1 : Good K H1 α1) (m1 : Mt σ α1) (st : Stp K (wrL α1) α1 H1 (Δ ++ αk) Hk) (mk : Mt σk αk)
    (kp : ∀ i, fz = some i → σk[i]? = σ[i]?) (h : thaw fz (erL αk) = some ρ') : ∃ α', erL α' = ρ' ∧ Mt σk α' ∧ Stp K (wrL α) α H (Δ ++ α') Hk := by
  rcases F with ⟨rfl, s0⟩ | ⟨i, a, ys, α0, rfl, s0, hi, im, rfl⟩
  · cases h
    exact ⟨αk, rfl, mk, s0.trans st s0.wsub⟩
  · simp only [thaw] at h
    split at h
    · rename_i ds e
      cases h
      rw [erL_map, List.getElem?_map] at e
      obtain ⟨z, ez, e2⟩ := Option.map_eq_some_iff.mp e
      obtain ⟨a', ys', rfl⟩ : ∃ a' ys', z = .rol a' ys' := by
        cases z <;> simp [A.er] at e2
        exact ⟨_, _, rfl⟩
      have e2 : erL ys' = ds := by simpa [A.er] using e2
      have hlen : i < α0.length := (List.getElem?_eq_some_iff.mp hi).1
      have h1 : (α0.set i (.rol a ys))[i]? = some (.rol a ys) := List.getElem?_set_self hlen
      have v1 : σ[i]? = some (some (.ref a)) := (m1.at_ i _ h1).resolve_left (by simp)
      have v2 : σk[i]? = some (some (.ref a')) := (mk.at_ i _ ez).resolve_left (by simp)
      have ea : a' = a := by
        rw [kp i rfl, v1] at v2
        cases v2; rfl
      subst ea
      -- the list itself
      have o0 := okL_iff.mp s0.good.ok _ (List.mem_of_getElem? hi)
      rw [A.ok] at o0
      obtain ⟨l1, p1, q1⟩ := footL_set hi
      have i0 := imm_footL ys im
      have n1 : a' ∉ wrL (α0.set i (.rol a' ys)) := by
        intro m
        have m := mem_wrL.mp m
        have nd := g1.nd
        have pq := ((q1 (.rol a' ys)).map (·.2)).nodup_iff.mp nd
        rcases List.mem_append.mp ((q1 (.rol a' ys)).mem_iff.mp m) with z | z
        · simp [A.foot] at z
        · simp only [A.foot, List.cons_append, List.nil_append, List.map_cons] at pq
          exact (List.nodup_cons.mp pq).1 (List.mem_map.mpr ⟨_, z, rfl⟩)
      have hk : Hk a' = some (.lst (ys.map A.val)) := st.fr.1 a' _ o0.1 n1
      have ok' := okL_iff.mp (okL_append.mp st.good.ok).2 _ (List.mem_of_getElem? ez)
      rw [A.ok] at ok'
      have hk' : Hk a' = some (.lst (ys'.map A.val)) := by
        rcases ok'.1 with z | ⟨o, z⟩
        · exact z
        · rw [hk] at z; cases z
      have lk : i < αk.length := (List.getElem?_eq_some_iff.mp ez).1
      obtain ⟨lk0, pk, qk⟩ := footL_set ez
      have ik := imm_footL ys' ok'.2.2.2
      obtain ⟨lk', elk⟩ : ∃ lk', lk' = footL Δ ++ lk0 := ⟨_, rfl⟩
      have pk' : (footL (Δ ++ αk)).Perm ((false, a') :: lk') := by
        have z : (footL αk).Perm ((false, a') :: lk0) := by simpa [A.foot] using pk
        rw [footL_append, elk]
        exact (List.Perm.append_left _ z).trans List.perm_middle
      have qk' : (footL (Δ ++ αk.set i (.lst a' ys'))).Perm ((true, a') :: lk') := by
        have z : (footL (αk.set i (.lst a' ys'))).Perm ((true, a') :: lk0) := by simpa [A.foot, ik] using qk (.lst a' ys')
        rw [footL_append, elk]
        exact (List.Perm.append_left _ z).trans List.perm_middle
      refine ⟨αk.set i (.lst a' ys'), by rw [erL_set, ← e2]; rfl, ?_, ⟨okL_append.mpr ⟨(okL_append.mp st.good.ok).1, okL_set (okL_append.mp st.good.ok).2 ⟨hk', ok'.2.1, ok'.2.2.1⟩⟩, ?_⟩, s0.fr.trans st.fr fun b m => ?_, fun p m => ?_⟩
      · refine ⟨by rw [List.length_set]; exact mk.len, fun j z hz => ?_⟩
        by_cases e : i = j
        · subst e
          rw [List.getElem?_set_self lk] at hz
          cases hz
          exact .inr v2
        · rw [List.getElem?_set_ne e] at hz
          exact mk.at_ j z hz
      · refine (qk'.map (·.2)).nodup_iff.mpr ?_
        exact (pk'.map (·.2)).nodup_iff.mp st.good.nd
      · have m := mem_wrL.mp m
        rcases List.mem_append.mp ((q1 (.rol a' ys)).mem_iff.mp m) with z | z
        · simp [A.foot] at z
        · exact s0.wsub b (mem_wrL.mpr (p1.mem_iff.mpr (List.mem_append_right _ z)))
      · have base : ∀ p ∈ footL α0, p ∈ footL α ∨ H p.2 = none := s0.ft
        rcases List.mem_cons.mp (qk'.mem_iff.mp m) with z | z
        · subst z
          exact base _ (p1.mem_iff.mpr (by simp [A.foot]))
        · have nd := (pk'.map (·.2)).nodup_iff.mp st.good.nd
          have ne : p.2 ≠ a' := fun e => (List.nodup_cons.mp nd).1 (List.mem_map.mpr ⟨p, z, e⟩)
          rcases st.ft p (pk'.mem_iff.mpr (List.mem_cons_of_mem _ z)) with w | w
          · rcases List.mem_append.mp ((q1 (.rol a' ys)).mem_iff.mp w) with z | z
            · have : p = (false, a') := by simpa [A.foot] using z
              exact absurd (by rw [this]) ne
            · exact base p (p1.mem_iff.mpr (List.mem_append_right _ z))
          · cases e : H p.2 with
            | none => exact .inr rfl
            | some o => exact absurd w (s0.fr.2 p.2 (by rw [e]; simp))
    · cases h
/-- the reading of what is walked -/
def tI (K : PySem.W.Frag) (gl : Nat → Option D) (call : Nat → List D → R D) (XR : XRel) (W : WX) (it : Ev.It) : TI := fun σ H R => ∃ α, Mt σ α ∧ Good K H α ∧
  (evI gl call it (erL α)).sat (fun q ρ => ∀ J xs src α1 H1, erL xs = q.1 → Walk K J xs src α1 H1 → Froz K α H q.2 α1 H1 → erL α1 = ρ → Mt σ α1 → Good K H1 α1 → R J H1) (EX K XR W σ α H)
theorem impI {X : Cx} {tg ex : Expr} {t t' : TI} (h : PI X tg ex t) (f : ∀ σ H R, t' σ H R → t σ H R) : PI X tg ex t' :=
  ⟨fun pins s σ H R I q => h.run pins s σ H R I (f σ H R q)⟩
theorem PI.or {X : Cx} {tg ex : Expr} {t t' : TI} (h : PI X tg ex t) (h' : PI X tg ex t') : PI X tg ex (fun σ H R => t σ H R ∨ t' σ H R) :=
  ⟨fun pins s σ H R I q => q.elim (h.run pins s σ H R I) (h'.run pins s σ H R I)⟩
theorem walk_rng {K : PySem.W.Frag} {α1 : List A} {H1 : Hp} (lo : Int) (n : Nat) (h : n ≤ line) : Walk K (Itr lo n) ((List.range n).map fun (k : Nat) => A.int (lo + (k : Int))) .non α1 H1 := by
  refine ⟨fun i H _ => ⟨fun x hx => ?_, fun hi => ?_⟩, trivial, by simp [A.foot], ?_, ?_, by simpa using h⟩
  · rw [List.getElem?_map] at hx
    obtain ⟨k, ek, rfl⟩ := Option.map_eq_some_iff.mp hx
    obtain ⟨hk, e⟩ := List.getElem?_eq_some_iff.mp ek
    rw [List.getElem_range] at e
    subst e
    rw [List.length_range] at hk
    exact ⟨hk, fun v H' y => y⟩
  · have : n ≤ i := by simpa using hi
    exact this
  · rw [okL_iff]
    intro x hx
    obtain ⟨k, _, rfl⟩ := List.mem_map.mp hx
    trivial
  · rw [immL_iff]
    intro d hd
    rw [erL_map, List.map_map] at hd
    obtain ⟨k, _, rfl⟩ := List.mem_map.mp hd
    rfl
theorem rngL_er (i j : Int) : rngL i j = erL ((List.range (j - i).toNat).map fun (k : Nat) => A.int (i + (k : Int))) := by
  rw [erL_map, List.map_map]; rfl
/-- a list or a tuple that stands still -/
theorem walk_seqL {K : PySem.W.Frag} {α1 : List A} {H1 : Hp} {x : A} {a : Addr} {xs : List A} (h : x = .lst a xs ∨ x = .rol a xs ∨ x = .kol a xs) (ok : x.ok K H1) (ap : ∀ p ∈ x.foot, p.2 ∉ wrL α1) (im : D.immL (erL xs) = true) : Walk K (Itl K a) xs x α1 H1 := by
  have o := A.seqL ok h
  refine ⟨fun i H hx => ?_, ok, ap, o.2.2.2, im, o.2.2.1⟩
  have q := (A.seqL hx h).2.1
  refine ⟨fun y hy => ⟨⟨_, y.val, q, by rw [List.getElem?_map, hy]; rfl⟩, fun v H' z => ⟨z.1, ?_⟩⟩, fun hi => ⟨_, q, by rw [List.length_map]; exact hi⟩⟩
  have := z.2 _ q
  rw [List.getElem?_map, hy] at this
  cases this; rfl
theorem walk_seqT {K : PySem.W.Frag} {α1 : List A} {H1 : Hp} {a : Addr} {xs : List A} (ok : (A.tup a xs).ok K H1) (im : D.immL (erL xs) = true) : Walk K (Itt K a) xs (.tup a xs) α1 H1 := by
  have o := ok
  rw [A.ok] at o
  refine ⟨fun i H hx => ?_, ok, by simp [A.foot, imm_footL xs im], o.2.2, im, o.2.1⟩
  rw [A.ok] at hx
  refine ⟨fun y hy => ⟨⟨_, y.val, hx.1, by rw [List.getElem?_map, hy]; rfl⟩, fun v H' z => ⟨z.1, ?_⟩⟩, fun hi => ⟨_, hx.1, by rw [List.length_map]; exact hi⟩⟩
  have := z.2 _ hx.1
  rw [List.getElem?_map, hy] at this
  cases this; rfl
theorem items_er {x : A} {ds : List D} (h : items x.er = some ds) : ∃ a xs, erL xs = ds ∧ D.immL ds = true ∧ (x = .tup a xs ∨ x = .lst a xs ∨ x = .rol a xs ∨ x = .kol a xs) ∨ ∃ s, x = .str s := by
  cases x with
  | no => simp [A.er, items] at h
  | non => simp [A.er, items] at h
  | bl b => simp [A.er, items] at h
  | int b => simp [A.er, items] at h
  | str s => exact ⟨0, [], .inr ⟨s, rfl⟩⟩
  | tup a xs =>
    simp only [A.er, items] at h
    split at h
    · cases h; exact ⟨a, xs, .inl ⟨rfl, by assumption, .inl rfl⟩⟩
    · cases h
  | lst a xs =>
    simp only [A.er, items] at h
    split at h
    · cases h; exact ⟨a, xs, .inl ⟨rfl, by assumption, .inr (.inl rfl)⟩⟩
    · cases h
  | rol a xs =>
    simp only [A.er, items] at h
    split at h
    · cases h; exact ⟨a, xs, .inl ⟨rfl, by assumption, .inr (.inr (.inl rfl))⟩⟩
    · cases h
  | kol a xs =>
    simp only [A.er, items] at h
    split at h
    · cases h; exact ⟨a, xs, .inl ⟨rfl, by assumption, .inr (.inr (.inr rfl))⟩⟩
    · cases h
end Ev
end

section
set_option Elab.async false
set_option linter.all false
set_option maxRecDepth 100000
/-! EvB10: what a loop walks. -/
namespace Ev
open PySem L2
section
variable {X : Cx} {gl : Nat → Option D} {call : Nat → List D → R D} {XR : XRel} {W : WX} {tg : Expr}
theorem int?_some {d : D} {j : Int} (h : d.int? = some j) : d = .int j := by cases d <;> simp [D.int?] at h <;> rw [h]
theorem Stp.asF {K : PySem.W.Frag} {q : Bool} {α Γ : List A} {H H1 : Hp} (s : Stp K (Wof q α) α H Γ H1) : Stp K (wrL α) α H Γ H1 := s.mono Wof_sub
theorem s_rng1 {e : Ev.E} {a : Expr} {p pos : Pos} (hg : Gl X "range") (hm : X.mg "range" = none) (he : SE X gl call XR W e a) (hp : plainE a = true) : PI X tg (.Call (.Name "range" p) [a] [] pos) (tI X.K gl call XR W (.rng1 e)) := by
  refine impI (pi_range1 hg hm (s_consE he s_nilE hp) (starCons hp)) fun σ H R q => ?_
  obtain ⟨α, m, g, s⟩ := q
  refine ⟨α, m, g, ?_⟩
  show ((evM gl call e .v (erL α)).bind fun d ρ1 => Ev.R.ok [d] ρ1).sat _ _
  rw [sat_bind]
  refine sat_mono (sat_bind.mp s) (fun d ρ f => ?_) fun _ _ z => z
  intro xs α1 H1 e1 e2 m1 st
  obtain ⟨j, ej, f⟩ := sat_opt.mp f
  obtain ⟨c, f⟩ := sat_ifOk.mp f
  rw [Bool.and_eq_true] at c
  have c1 : -(2 ^ 62) ≤ j ∧ j < 2 ^ 62 := by have := c.1; simpa [rngOk] using this
  obtain ⟨x, rfl⟩ : ∃ x, xs = [x] := by
    cases xs with
    | nil => simp [erL] at e1
    | cons x xs => cases xs with
      | nil => exact ⟨x, rfl⟩
      | cons y ys => simp [erL] at e1
  have ex : x.er = .int j := by rw [int?_some ej] at e1; simpa [erL] using e1
  have := er_int ex
  subst this
  have st' := Stp.right (Δ := [A.int j]) st
  refine ⟨j, rfl, c1.1, c1.2, f (Itr 0 j.toNat) _ .non α1 H1 ?_ (walk_rng 0 j.toNat (fits_iff.mp c.2)) (.inl ⟨rfl, st'.asF⟩) e2 m1 st'.good⟩
  rw [rngL_er]; simp
theorem s_rng2 {e1 e2 : Ev.E} {a b : Expr} {p pos : Pos} (hg : Gl X "range") (hm : X.mg "range" = none) (he1 : SE X gl call XR W e1 a) (he2 : SE X gl call XR W e2 b) (hp1 : plainE a = true) (hp2 : plainE b = true) :
    PI X tg (.Call (.Name "range" p) [a, b] [] pos) (tI X.K gl call XR W (.rng2 e1 e2)) := by
  refine impI (pi_range2 hg hm (s_consE he1 (s_consE he2 s_nilE hp2) hp1) (by rw [starCons hp1, starCons hp2]; rfl) (starCons hp2)) fun σ H R q => ?_
  obtain ⟨α, m, g, s⟩ := q
  refine ⟨α, m, g, ?_⟩
  show ((evM gl call e1 .v (erL α)).bind fun d ρ1 => ((evM gl call e2 .v ρ1).bind fun d2 ρ2 => Ev.R.ok [d2] ρ2).bind fun ds ρ2 => Ev.R.ok (d :: ds) ρ2).sat _ _
  rw [sat_bind]
  refine sat_mono (sat_bind.mp s) (fun d ρ f => ?_) fun _ _ z => z
  rw [sat_bind, sat_bind]
  refine sat_mono (sat_bind.mp f) (fun d2 ρ2 f => ?_) fun _ _ z => z
  intro xs α1 H1 e1 e2 m1 st
  obtain ⟨i, ei, f⟩ := sat_opt.mp f
  obtain ⟨j, ej, f⟩ := sat_opt.mp f
  obtain ⟨c, f⟩ := sat_ifOk.mp f
  rw [Bool.and_eq_true, Bool.and_eq_true] at c
  have c1 : -(2 ^ 62) ≤ i ∧ i < 2 ^ 62 := by have := c.1.1; simpa [rngOk] using this
  have c2 : -(2 ^ 62) ≤ j ∧ j < 2 ^ 62 := by have := c.1.2; simpa [rngOk] using this
  obtain ⟨x, y, rfl⟩ : ∃ x y, xs = [x, y] := by
    cases xs with
    | nil => simp [erL] at e1
    | cons x xs => cases xs with
      | nil => simp [erL] at e1
      | cons y ys => cases ys with
        | nil => exact ⟨x, y, rfl⟩
        | cons z zs => simp [erL] at e1
  have ee : x.er = .int i ∧ y.er = .int j := by rw [int?_some ei, int?_some ej] at e1; simpa [erL] using e1
  have := er_int ee.1
  subst this
  have := er_int ee.2
  subst this
  have st' := Stp.right (Δ := [A.int i, A.int j]) st
  exact ⟨i, j, rfl, ⟨c1.1, c1.2, c2.1, c2.2⟩, f (Itr i (j - i).toNat) _ .non α1 H1 (rngL_er i j).symm (walk_rng i _ (fits_iff.mp c.2)) (.inl ⟨rfl, st'.asF⟩) e2 m1 st'.good⟩
theorem items_no {x : A} {ds : List D} (h : items x.er = some ds) : ∃ a xs, erL xs = ds ∧ D.immL ds = true ∧ (x = .tup a xs ∨ x = .lst a xs ∨ x = .rol a xs ∨ x = .kol a xs) := by
  obtain ⟨a, xs, h1 | ⟨s, rfl⟩⟩ := items_er h
  · exact ⟨a, xs, h1⟩
  · simp [A.er, items] at h
/-- list or tuple: one reading -/
theorem pi_seq {ex : Expr} {t : TE} (h : PE X ex t) : PI X tg ex (fun σ H R => iList X.K t σ H R ∨ iTup X.K t σ H R) := PI.or (pi_list h) (pi_tup h)
theorem walk_any {K : PySem.W.Frag} {α1 : List A} {H1 : Hp} {x : A} {ds : List D} (h : items x.er = some ds) (ok : x.ok K H1) (ap : ∀ p ∈ x.foot, p.2 ∉ wrL α1) :
    (∃ a xs, x.val = .ref a ∧ erL xs = ds ∧ (∃ ys, SqL K H1 a ys) ∧ Walk K (Itl K a) xs x α1 H1) ∨ (∃ a xs, x.val = .ref a ∧ erL xs = ds ∧ (∃ ys, SqT K H1 a ys) ∧ Walk K (Itt K a) xs x α1 H1) := by
  obtain ⟨a, xs, e1, e2, hx⟩ := items_no h
  rw [← e1] at e2
  rcases hx with hx | hx
  · subst hx
    have o := ok
    rw [A.ok] at o
    exact .inr ⟨a, xs, rfl, e1, ⟨_, o.1⟩, walk_seqT ok e2⟩
  · have o := A.seqL ok hx
    exact .inl ⟨a, xs, o.1, e1, ⟨_, o.2.1⟩, walk_seqL hx ok ap e2⟩
theorem foot_apart {K : PySem.W.Frag} {H : Hp} {x : A} {α : List A} (g : Good K H (x :: α)) : ∀ p ∈ x.foot, p.2 ∉ wrL α := fun p m n => by
  have nd := g.nd
  rw [footL, List.map_append, List.nodup_append] at nd
  exact nd.2.2 p.2 (List.mem_map_of_mem m) p.2 (List.mem_map.mpr ⟨_, mem_wrL.mp n, rfl⟩) rfl
/-- which of the two it is: by the evaluator's value -/
def D.isTup : D → Bool
  | .tup _ => true
  | _ => false
theorem walk_tup {K : PySem.W.Frag} {α1 : List A} {H1 : Hp} {x : A} {ds : List D} (h : items x.er = some ds) (ok : x.ok K H1) (ht : x.er.isTup = true) :
    ∃ a xs, x.val = .ref a ∧ erL xs = ds ∧ (∃ ys, SqT K H1 a ys) ∧ Walk K (Itt K a) xs x α1 H1 := by
  obtain ⟨a, xs, e1, e2, hx⟩ := items_no h
  rw [← e1] at e2
  rcases hx with hx | hx | hx | hx
  · subst hx
    have o := ok
    rw [A.ok] at o
    exact ⟨a, xs, rfl, e1, ⟨_, o.1⟩, walk_seqT ok e2⟩
  all_goals (subst hx; simp [A.er, D.isTup] at ht)
theorem walk_list {K : PySem.W.Frag} {α1 : List A} {H1 : Hp} {x : A} {ds : List D} (h : items x.er = some ds) (ok : x.ok K H1) (ap : ∀ p ∈ x.foot, p.2 ∉ wrL α1) (ht : x.er.isTup = false) :
    ∃ a xs, x.val = .ref a ∧ erL xs = ds ∧ (∃ ys, SqL K H1 a ys) ∧ Walk K (Itl K a) xs x α1 H1 := by
  obtain ⟨a, xs, e1, e2, hx⟩ := items_no h
  rw [← e1] at e2
  rcases hx with hx | hx
  · subst hx; simp [A.er, D.isTup] at ht
  · have o := A.seqL ok hx
    exact ⟨a, xs, o.1, e1, ⟨_, o.2.1⟩, walk_seqL hx ok ap e2⟩
theorem s_seq {e : Ev.E} {ex : Expr} (he : SE X gl call XR W e ex) : PI X tg ex (tI X.K gl call XR W (.seq e)) := by
  refine impI (pi_seq he.v) fun σ H R q => ?_
  obtain ⟨α, m, g, s⟩ := q
  have s : ((evM gl call e .v (erL α)).bind fun d ρ1 => opt (items d) fun xs => Ev.R.ok (xs, none) ρ1).sat _ _ := s
  cases hd : evM gl call e .v (erL α) with
  | st => rw [hd] at s; exact s.elim
  | rz x ρ => rw [hd] at s; exact .inl ⟨α, m, g, by rw [hd]; exact s⟩
  | ok d ρ =>
    rw [hd] at s
    obtain ⟨ds, ed, f⟩ := sat_opt.mp s
    cases ht : d.isTup with
    | true =>
      refine .inr ⟨α, m, g, ?_⟩
      rw [hd]
      intro x α1 H1 e1 e2 m1 st
      subst e1
      obtain ⟨a, xs, v, ex, sq, wk⟩ := walk_tup (α1 := α1) ed st.good.ok.1 ht
      have st' := Stp.right (Δ := [x]) st
      exact ⟨a, v, sq, f _ xs x α1 H1 ex wk (.inl ⟨rfl, st'.asF⟩) e2 m1 st'.good⟩
    | false =>
      refine .inl ⟨α, m, g, ?_⟩
      rw [hd]
      intro x α1 H1 e1 e2 m1 st
      subst e1
      obtain ⟨a, xs, v, ex, sq, wk⟩ := walk_list (α1 := α1) ed st.good.ok.1 (foot_apart st.good) ht
      have st' := Stp.right (Δ := [x]) st
      exact ⟨a, v, sq, f _ xs x α1 H1 ex wk (.inl ⟨rfl, st'.asF⟩) e2 m1 st'.good⟩
theorem sits_foot {x : A} {ds : List D} (h : items x.er = some ds) (hs : x.er.sits = true) : x.foot = [] := by
  obtain ⟨a, xs, e1, e2, hx⟩ := items_no h
  rw [← e1] at e2
  rcases hx with hx | hx | hx | hx <;> subst hx
  · rw [A.foot]; exact imm_footL xs e2
  · simp [A.er, D.sits] at hs
  · simp [A.er, D.sits] at hs
  · rfl
theorem s_seqv {e : Ev.E} {ex : Expr} (he : SE X gl call XR W e ex) : PI X tg ex (tI X.K gl call XR W (.seqv e)) := by
  refine impI (pi_seq he.b) fun σ H R q => ?_
  obtain ⟨α, m, g, s⟩ := q
  have s : ((evM gl call e .b (erL α)).bind fun d ρ1 => opt (items d) fun xs => ifOk (d.sits) (Ev.R.ok (xs, none) ρ1)).sat _ _ := s
  cases hd : evM gl call e .b (erL α) with
  | st => rw [hd] at s; exact s.elim
  | rz x ρ => rw [hd] at s; exact .inl ⟨α, m, g, by rw [hd]; exact s⟩
  | ok d ρ =>
    rw [hd] at s
    obtain ⟨ds, ed, f0⟩ := sat_opt.mp s
    obtain ⟨hs, f⟩ := sat_ifOk.mp f0
    clear f0
    cases ht : d.isTup with
    | true =>
      refine .inr ⟨α, m, g, ?_⟩
      rw [hd]
      intro x α1 H1 e1 e2 m1 st ok
      subst e1
      obtain ⟨a, xs, v, ex, sq, wk⟩ := walk_tup (α1 := α1) ed ok ht
      have st' := Stp.right (Δ := own e x) st
      exact ⟨a, v, sq, f _ xs x α1 H1 ex wk (.inl ⟨rfl, st'.asF⟩) e2 m1 st'.good⟩
    | false =>
      refine .inl ⟨α, m, g, ?_⟩
      rw [hd]
      intro x α1 H1 e1 e2 m1 st ok
      subst e1
      obtain ⟨a, xs, v, ex, sq, wk⟩ := walk_list (α1 := α1) ed ok (by rw [sits_foot ed hs]; simp) ht
      have st' := Stp.right (Δ := own e x) st
      exact ⟨a, v, sq, f _ xs x α1 H1 ex wk (.inl ⟨rfl, st'.asF⟩) e2 m1 st'.good⟩
theorem foot_mem {K : PySem.W.Frag} {H : Hp} {α : List A} {i : Nat} {y : A} (g : Good K H α) (hy : α[i]? = some y) (hs : ∀ p ∈ y.foot, p.1 = false) : ∀ p ∈ y.foot, p.2 ∉ wrL α := fun p m n => by
  have nd := g.nd
  obtain ⟨l, p1, _⟩ := footL_set hy
  have nd' := (p1.map (·.2)).nodup_iff.mp nd
  rw [List.map_append, List.nodup_append] at nd'
  rcases List.mem_append.mp (p1.mem_iff.mp (mem_wrL.mp n)) with z | z
  · have := hs _ z; cases this
  · exact nd'.2.2 p.2 (List.mem_map_of_mem m) p.2 (List.mem_map.mpr ⟨_, z, rfl⟩) rfl
theorem s_froz {i : Nat} {x : Str} {pos : Pos} (hN : X.N[i]? = some x) (hv : Vis X.env.scope x) (hd : (x == ("__debug__" : Str)) = false) (hcd : (x == ("__classdict__" : Str)) = false) : PI X tg (.Name x pos) (tI X.K gl call XR W (.froz i)) := by
  refine impI (pi_seq (pe_var hN hv hd hcd)) fun σ H R q => ?_
  obtain ⟨α, m, g, s⟩ := q
  obtain ⟨d, ed, s1⟩ := sat_opt.mp s
  obtain ⟨ds, es, s2⟩ := sat_opt.mp s1
  clear s s1
  obtain ⟨y, y1, y2, y3⟩ := rd_at m ed
  subst y2
  have oy : y.ok X.K H := okL_iff.mp g.ok y (List.mem_of_getElem? y1)
  by_cases hs : y.er.still = true
  · rw [if_pos hs] at s2
    have ap : ∀ p ∈ y.foot, p.2 ∉ wrL α := by
      refine foot_mem g y1 fun p mp => ?_
      obtain ⟨a, xs, e1, e2, hx⟩ := items_no es
      rw [← e1] at e2
      rcases hx with hx | hx | hx | hx <;> subst hx
      · rw [A.foot, imm_footL xs e2] at mp; cases mp
      · simp [A.er, D.still] at hs
      · have : p = (false, a) := by simpa [A.foot] using mp
        rw [this]
      · cases mp
    cases ht : y.er.isTup with
    | true =>
      obtain ⟨a, xs, v, ex, sq, wk⟩ := walk_tup (α1 := α) es oy ht
      exact .inr ⟨_, y3, a, v, sq, s2 _ xs y α H ex wk (.inl ⟨rfl, Stp.refl g⟩) rfl m g⟩
    | false =>
      obtain ⟨a, xs, v, ex, sq, wk⟩ := walk_list es oy ap ht
      exact .inl ⟨_, y3, a, v, sq, s2 _ xs y α H ex wk (.inl ⟨rfl, Stp.refl g⟩) rfl m g⟩
  · rw [if_neg hs] at s2
    obtain ⟨a, xs, e1, e2, hx⟩ := items_no es
    rcases hx with hx | hx | hx | hx <;> subst hx
    · simp [A.er, D.still] at hs
    · -- a list: frozen from here on
      rw [← e1] at e2
      have hl := (List.getElem?_eq_some_iff.mp y1).1
      obtain ⟨l, p1, q1⟩ := footL_set y1
      have o := oy
      rw [A.ok] at o
      have orol : (A.rol a xs).ok X.K H := by rw [A.ok]; exact ⟨.inl o.1, o.2.1, o.2.2, e2⟩
      have i0 := imm_footL xs e2
      have p1' : (footL α).Perm ((true, a) :: l) := by simpa [A.foot, i0] using p1
      have q1' : (footL (α.set i (.rol a xs))).Perm ((false, a) :: l) := by simpa [A.foot] using q1 (.rol a xs)
      have g1 : Good X.K H (α.set i (.rol a xs)) := ⟨okL_set g.ok orol, (q1'.map (·.2)).nodup_iff.mpr ((p1'.map (·.2)).nodup_iff.mp g.nd)⟩
      have m1 : Mt σ (α.set i (.rol a xs)) := by
        refine ⟨by rw [List.length_set]; exact m.len, fun j z hz => ?_⟩
        by_cases e : i = j
        · subst e
          rw [List.getElem?_set_self hl] at hz
          cases hz
          exact .inr y3
        · rw [List.getElem?_set_ne e] at hz
          exact m.at_ j z hz
      have ap : ∀ p ∈ (A.rol a xs).foot, p.2 ∉ wrL (α.set i (.rol a xs)) := by
        refine foot_mem g1 (List.getElem?_set_self hl) fun p mp => ?_
        have : p = (false, a) := by simpa [A.foot] using mp
        rw [this]
      have wk := walk_seqL (α1 := α.set i (.rol a xs)) (.inr (.inl rfl)) orol ap e2
      refine .inl ⟨_, y3, a, rfl, ⟨_, (A.seqL oy (.inl rfl)).2.1⟩, s2 _ xs _ _ H e1 wk (.inr ⟨i, a, xs, α, rfl, Stp.refl g, y1, e2, rfl⟩) ?_ m1 g1⟩
      rw [erL_set, ← e1]; rfl
    · simp [A.er, D.still] at hs
    · simp [A.er, D.still] at hs
end
end Ev
end

section
set_option Elab.async false
set_option linter.all false
set_option maxRecDepth 100000
/-! EvB11: statements. -/
namespace Ev
open PySem L2
structure Go (K : PySem.W.Frag) (ok : Nat → Bool) (σ : L2.St) (α : List A) (H : Hp) (σ' : L2.St) (α' : List A) (H' : Hp) : Prop where
  m : Mt σ' α'
  kp : KeepS ok σ σ'
  st : Stp K (wrL α) α H α' H'
section
variable {K : PySem.W.Frag} {XR : XRel} {W : WX} {ok : Nat → Bool} {σ σ1 σ2 : L2.St} {α α1 α2 : List A} {H H1 H2 : Hp}
theorem Go.refl (m : Mt σ α) (g : Good K H α) : Go K ok σ α H σ α H := ⟨m, .refl, .refl g⟩
theorem Go.trans (a : Go K ok σ α H σ1 α1 H1) (b : Go K ok σ1 α1 H1 σ2 α2 H2) : Go K ok σ α H σ2 α2 H2 := ⟨b.m, a.kp.trans b.kp, a.st.trans b.st a.st.wsub⟩
/-- the end o, from the state σ, α, H, leads to D or to an exception wished by W -/
def O.sat (K : PySem.W.Frag) (XR : XRel) (W : WX) (ok : Nat → Bool) (σ : L2.St) (α : List A) (H : Hp) (D : Ends) : O → Prop
  | .nx ρ => ∀ σ' α' H', erL α' = ρ → Go K ok σ α H σ' α' H' → D.nx σ' H'
  | .bk ρ => ∀ σ' α' H', erL α' = ρ → Go K ok σ α H σ' α' H' → D.bk σ' H'
  | .ct ρ => ∀ σ' α' H', erL α' = ρ → Go K ok σ α H σ' α' H' → D.ct σ' H'
  | .rt d ρ => ∀ x σ' α' H', x.er = d → erL α' = ρ → Mt σ' α' → KeepS ok σ σ' → Stp K (wrL α) α H (x :: α') H' → D.rt x.val H'
  | .rz x ρ => ∀ cls dd σ' α' H', XR x cls dd H' → erL α' = ρ → Go K ok σ α H σ' α' H' → W cls dd σ' H'
  | .st => False
theorem O.sat.on {D : Ends} {o : O} (h : O.sat K XR W ok σ α H D o) (b : Go K ok σ α H σ1 α1 H1) : O.sat K XR W ok σ1 α1 H1 D o := by
  cases o with
  | nx ρ => exact fun σ' α' H' e g => h σ' α' H' e (b.trans g)
  | bk ρ => exact fun σ' α' H' e g => h σ' α' H' e (b.trans g)
  | ct ρ => exact fun σ' α' H' e g => h σ' α' H' e (b.trans g)
  | rt d ρ => exact fun x σ' α' H' e1 e2 m k s => h x σ' α' H' e1 e2 m (b.kp.trans k) (b.st.trans s b.st.wsub)
  | rz x ρ => exact fun cls dd σ' α' H' r e g => h cls dd σ' α' H' r e (b.trans g)
  | st => exact h
theorem osat_o {β : Type} {r : Ev.R β} {f : β → Env → O} {D : Ends} (h : O.sat K XR W ok σ α H D (r.o f)) : r.sat (fun a ρ => O.sat K XR W ok σ α H D (f a ρ)) (EX K XR W σ α H) := by
  cases r with
  | ok a ρ => exact h
  | rz x ρ => exact fun cls dd α' H' r e m s => h cls dd σ α' H' r e ⟨m, .refl, s⟩
  | st => exact h
theorem osat_o' {β : Type} {r : Ev.R β} {f : β → Env → O} {D : Ends} (go : Go K ok σ α H σ1 α1 H1) (h : O.sat K XR W ok σ α H D (r.o f)) : r.sat (fun a ρ => O.sat K XR W ok σ α H D (f a ρ)) (EX K XR W σ1 α1 H1) := by
  cases r with
  | ok a ρ => exact h
  | rz x ρ => exact fun cls dd α' H' r e m s => h cls dd σ1 α' H' r e (go.trans ⟨m, .refl, s⟩)
  | st => exact h
theorem osat_opt {β : Type} {o : Option β} {f : β → O} {D : Ends} (h : O.sat K XR W ok σ α H D (optO o f)) : ∃ b, o = some b ∧ O.sat K XR W ok σ α H D (f b) := by
  cases o with
  | none => exact h.elim
  | some b => exact ⟨b, rfl, h⟩
theorem osat_if {b : Bool} {o : O} {D : Ends} (h : O.sat K XR W ok σ α H D (ifO b o)) : b = true ∧ O.sat K XR W ok σ α H D o := by
  cases b with
  | false => exact h.elim
  | true => exact ⟨rfl, h⟩
/-- o, then f -/
theorem osat_next {o : O} {f : Env → O} {D : Ends} (h : O.sat K XR W ok σ α H D (o.next f)) : O.sat K XR W ok σ α H { D with nx := fun σ' H' => ∃ α', Mt σ' α' ∧ Good K H' α' ∧ O.sat K XR W ok σ' α' H' D (f (erL α')) } o := by
  cases o with
  | nx ρ => exact fun σ' α' H' e g => ⟨α', g.m, g.st.good, O.sat.on (show O.sat K XR W ok σ α H D (f (erL α')) by rw [e]; exact h) g⟩
  | bk ρ => exact h
  | ct ρ => exact h
  | rt d ρ => exact h
  | rz x ρ => exact h
  | st => exact h
/-- a turn, then the others -/
theorem osat_turn {o : O} {f : Env → O} {D : Ends} (h : O.sat K XR W ok σ α H D (o.turn f)) :
    O.sat K XR W ok σ α H { D with nx := fun σ' H' => ∃ α', Go K ok σ α H σ' α' H' ∧ O.sat K XR W ok σ α H D (f (erL α')), ct := fun σ' H' => ∃ α', Go K ok σ α H σ' α' H' ∧ O.sat K XR W ok σ α H D (f (erL α')), bk := D.nx } o := by
  cases o with
  | nx ρ => exact fun σ' α' H' e g => ⟨α', g, by rw [e]; exact h⟩
  | bk ρ => exact h
  | ct ρ => exact fun σ' α' H' e g => ⟨α', g, by rw [e]; exact h⟩
  | rt d ρ => exact h
  | rz x ρ => exact h
  | st => exact h
end
section
variable (K : PySem.W.Frag) (gl : Nat → Option D) (call : Nat → List D → R D) (XR : XRel) (W : WX) (fuel : Nat)
def tS (ok : Nat → Bool) (c : S) : TS := fun D σ H => ∃ α, Mt σ α ∧ Good K H α ∧ O.sat K XR W ok σ α H D (evS gl call fuel c ok (erL α))
def tSs (ok : Nat → Bool) (c : Ss) : TS := fun D σ H => ∃ α, Mt σ α ∧ Good K H α ∧ O.sat K XR W ok σ α H D (evSs gl call fuel c ok (erL α))
end
theorem impS {X : Cx} {st : Stmt} {t t' : TS} (h : PS X st t) (f : ∀ D σ H, t' D σ H → t D σ H) : PS X st t' := ⟨fun pins s σ H D I q => h.run pins s σ H D I (f D σ H q)⟩
theorem impSs {X : Cx} {st : List Stmt} {t t' : TS} (h : PSs X st t) (f : ∀ D σ H, t' D σ H → t D σ H) : PSs X st t' := ⟨fun pins s σ H D I q => h.run pins s σ H D I (f D σ H q)⟩
section
variable {X : Cx} {gl : Nat → Option D} {call : Nat → List D → R D} {XR : XRel} {W : WX} {fuel : Nat} {ok : Nat → Bool} {pos : Pos}
theorem s_nilS : PSs X [] (tSs X.K gl call XR W fuel ok .nil) := impSs pss_nil fun D σ H q => by
  obtain ⟨α, m, g, s⟩ := q
  exact s σ α H rfl (.refl m g)
theorem s_consS {c : S} {cs : Ss} {st : Stmt} {sts : List Stmt} (h : PS X st (tS X.K gl call XR W fuel ok c)) (hs : PSs X sts (tSs X.K gl call XR W fuel ok cs)) : PSs X (st :: sts) (tSs X.K gl call XR W fuel ok (.cons c cs)) := by
  refine impSs (pss_cons h hs) fun D σ H q => ?_
  obtain ⟨α, m, g, s⟩ := q
  have s : O.sat X.K XR W ok σ α H D ((evS gl call fuel c ok (erL α)).next fun ρ1 => evSs gl call fuel cs ok ρ1) := s
  exact ⟨α, m, g, osat_next s⟩
theorem s_passS : PS X (.Pass pos) (tS X.K gl call XR W fuel ok .pass) := impS ps_pass fun D σ H q => by
  obtain ⟨α, m, g, s⟩ := q
  exact s σ α H rfl (.refl m g)
theorem s_brkS : PS X (.Break pos) (tS X.K gl call XR W fuel ok .brk) := impS ps_break fun D σ H q => by
  obtain ⟨α, m, g, s⟩ := q
  exact s σ α H rfl (.refl m g)
theorem s_cntS : PS X (.Continue pos) (tS X.K gl call XR W fuel ok .cnt) := impS ps_continue fun D σ H q => by
  obtain ⟨α, m, g, s⟩ := q
  exact s σ α H rfl (.refl m g)
theorem s_retS {e : Ev.E} {ex : Expr} (he : SE X gl call XR W e ex) : PS X (.Return (some ex) pos) (tS X.K gl call XR W fuel ok (.ret e)) := impS (ps_ret he.v) fun D σ H q => by
  obtain ⟨α, m, g, s⟩ := q
  refine ⟨α, m, g, sat_mono (osat_o s) (fun d ρ f x α1 H1 e1 e2 m1 st => ?_) fun _ _ z => z⟩
  exact f x σ α1 H1 e1 e2 m1 .refl st.asF
theorem s_ret0S : PS X (.Return none pos) (tS X.K gl call XR W fuel ok .ret0) := impS ps_retN fun D σ H q => by
  obtain ⟨α, m, g, s⟩ := q
  exact s .non σ α H rfl rfl m .refl ((Stp.refl g).imm trivial rfl)
/-- no comprehension -/
def noComp : Expr → Bool
  | .ListComp .. | .SetComp .. | .DictComp .. => false
  | _ => true
theorem sw_false {e : Expr} {t : Option Expr} {l : Nat} {env : PySem.Env} (h : noComp e = true) : swapsWith e t l env = pure false := by
  cases e <;> first | rfl | (simp [noComp] at h)
theorem s_exS {e : Ev.E} {ex : Expr} (he : SE X gl call XR W e ex) (hn : noComp ex = true) : PS X (.Expr ex pos) (tS X.K gl call XR W fuel ok (.ex e)) := impS (ps_expr he.v (sw_false hn)) fun D σ H q => by
  obtain ⟨α, m, g, s⟩ := q
  refine ⟨α, m, g, sat_mono (osat_o s) (fun d ρ f x α1 H1 e1 e2 m1 st => ?_) fun _ _ z => z⟩
  exact f σ α1 H1 e2 ⟨m1, .refl, (Stp.right (Δ := [x]) st).asF⟩
theorem s_iteS {c : Ev.E} {a b : Ss} {ce : Expr} {as bs : List Stmt} (hc : PT X ce (tT X.K gl call XR W c)) (ha : PSs X as (tSs X.K gl call XR W fuel ok a)) (hb : PSs X bs (tSs X.K gl call XR W fuel ok b)) : PS X (.If ce as bs pos) (tS X.K gl call XR W fuel ok (.ite c a b)) :=
  impS (ps_if hc ha hb) fun D σ H q => by
    obtain ⟨α, m, g, s⟩ := q
    refine ⟨α, m, g, sat_mono (osat_o s) (fun d ρ f α1 H1 e1 m1 st => ?_) fun _ _ z => z⟩
    have go : Go X.K ok σ α H σ α1 H1 := ⟨m1, .refl, st.asF⟩
    subst e1
    show if d.isT = true then tSs X.K gl call XR W fuel ok a D σ H1 else tSs X.K gl call XR W fuel ok b D σ H1
    cases hd : d.isT with
    | true =>
      rw [hd, if_pos rfl] at f
      rw [if_pos rfl]
      exact ⟨α1, m1, st.good, f.on go⟩
    | false =>
      rw [hd, if_neg Bool.false_ne_true] at f
      rw [if_neg Bool.false_ne_true]
      exact ⟨α1, m1, st.good, f.on go⟩
/-- target = value -/
theorem s_setS {e : Ev.E} {ex te : Expr} {tg : Tg} (he : SE X gl call XR W e ex) (hg : PG X te (tG X.K ok tg)) (hn : noComp ex = true) (hp : plainE te = true) (hw : swappedStores [te] ex X.env = pure none) :
    PS X (.Assign [te] ex pos) (tS X.K gl call XR W fuel ok (.set tg e)) := impS (ps_asg he.v hg (sw_false hn) hw (by rw [assignCons hp]; rfl)) fun D σ H q => by
  obtain ⟨α, m, g, s⟩ := q
  refine ⟨α, m, g, sat_mono (osat_o s) (fun d ρ f x α1 H1 e1 e2 m1 st => ?_) fun _ _ z => z⟩
  subst e1 e2
  obtain ⟨ρ', e3, f⟩ := osat_opt f
  exact ⟨x, α1, ρ', rfl, m1, st.good, e3, fun σ' α' e m' g' sub kp => f σ' α' H1 e ⟨m', kp, st.asF.trans (W' := []) (stp_same g' sub) (by simp)⟩⟩
theorem while_core {c : Env → Ev.R D} {body : Env → O} {tc : TT} {tb : TS} {D : Ends} {σ0 : L2.St} {α0 : List A} {H0 : Hp} {K : PySem.W.Frag}
    (hc : ∀ σ α H Q, Mt σ α → Good K H α → (c (erL α)).sat (fun d ρ => ∀ α' H', erL α' = ρ → Mt σ α' → Stp K (wrL α) α H α' H' → Q d.isT H') (EX K XR W σ α H) → tc σ H Q)
    (hb : ∀ σ α H D, Mt σ α → Good K H α → O.sat K XR W ok σ α H D (body (erL α)) → tb D σ H)
    (n : Nat) (m : Mt σ0 α0) (g : Good K H0 α0) (s : O.sat K XR W ok σ0 α0 H0 D (whlL c body n (erL α0))) : tWhile tc tb D σ0 H0 := by
  refine ⟨fun n σ H => ∃ α, Go K ok σ0 α0 H0 σ α H ∧ O.sat K XR W ok σ0 α0 H0 D (whlL c body n (erL α)), ⟨n, α0, .refl m g, s⟩, ?_⟩
  rintro n σ H ⟨α, go, s⟩
  cases n with
  | zero => exact s.elim
  | succ n =>
    have s : O.sat K XR W ok σ0 α0 H0 D ((c (erL α)).o fun k ρ1 => if k.isT = true then (body ρ1).turn (fun ρ' => whlL c body n ρ') else .nx ρ1) := s
    refine hc σ α H _ go.m go.st.good (sat_mono (osat_o' go s) (fun d ρ f α1 H1 e1 m1 st => ?_) fun _ _ z => z)
    subst e1
    have go1 : Go K ok σ0 α0 H0 σ α1 H1 := go.trans ⟨m1, .refl, st⟩
    cases hd : d.isT with
    | true =>
      rw [hd, if_pos rfl] at f
      rw [if_pos rfl]
      exact ⟨_, fun σ' H' h => ⟨n, Nat.lt_succ_self n, h⟩, hb σ α1 H1 _ m1 st.good ((osat_turn f).on go1)⟩
    | false =>
      rw [hd, if_neg Bool.false_ne_true] at f
      rw [if_neg Bool.false_ne_true]
      exact f σ α1 H1 rfl go1
theorem s_whlS {c : Ev.E} {b : Ss} {ce : Expr} {bs : List Stmt} (hp : PassesOwn (model X.prog X.w) X.A X.env X.xe) (hc : PT X ce (tT X.K gl call XR W c)) (hb : PSs X bs (tSs X.K gl call XR W fuel ok b)) : PS X (.While ce bs [] pos) (tS X.K gl call XR W fuel ok (.whl c b)) := by
  refine impS (ps_while hp hc hb) fun D σ H q => ?_
  obtain ⟨α, m, g, s⟩ := q
  exact while_core (fun σ α H Q m g s => ⟨α, m, g, sat_mono s (fun d ρ f α' H' e m' st => f α' H' e m' st.asF) fun _ _ z => z⟩) (fun σ α H D m g s => ⟨α, m, g, s⟩) fuel m g s
/-- the ends behind a walk: what was frozen is a list again -/
theorem osat_thaw {K : PySem.W.Frag} {o : O} {fz : Option Nat} {D : Ends} {σ : L2.St} {α α1 : List A} {H H1 : Hp} (F : Froz K α H fz α1 H1) (m1 : Mt σ α1) (g1 : Good K H1 α1) (h : O.sat K XR W ok σ α H D (o.thaw fz)) :
    O.sat K XR W (okBut ok fz) σ α1 H1 D o := by
  have kp1 : ∀ {σ' : L2.St}, KeepS (okBut ok fz) σ σ' → KeepS ok σ σ' := fun {σ'} k => ⟨k.1, fun i hi => k.2 i (by cases fz <;> simp [okBut, hi])⟩
  have kp2 : ∀ {σ' : L2.St}, KeepS (okBut ok fz) σ σ' → ∀ i, fz = some i → σ'[i]? = σ[i]? := fun {σ'} k i hi => k.2 i (by subst hi; simp [okBut])
  cases o with
  | nx ρ =>
    intro σ' α' H' e go
    subst e
    obtain ⟨ρ', e1, h⟩ := osat_opt h
    obtain ⟨α2, e2, m2, st2⟩ := thaw_ok (Δ := []) F g1 m1 go.st go.m (kp2 go.kp) e1
    exact h σ' α2 H' e2 ⟨m2, kp1 go.kp, st2⟩
  | rt d ρ =>
    intro x σ' α' H' ex e mm kk st
    subst e
    obtain ⟨ρ', e1, h⟩ := osat_opt h
    obtain ⟨α2, e2, m2, st2⟩ := thaw_ok (Δ := [x]) F g1 m1 st mm (kp2 kk) e1
    exact h x σ' α2 H' ex e2 m2 (kp1 kk) st2
  | rz x ρ =>
    intro cls dd σ' α' H' xr e go
    subst e
    obtain ⟨ρ', e1, h⟩ := osat_opt h
    obtain ⟨α2, e2, m2, st2⟩ := thaw_ok (Δ := []) F g1 m1 go.st go.m (kp2 go.kp) e1
    exact h cls dd σ' α2 H' xr e2 ⟨m2, kp1 go.kp, st2⟩
  | bk ρ => exact h.elim
  | ct ρ => exact h.elim
  | st => exact h.elim
def notSet : Expr → Bool
  | .Set .. => false
  | _ => true
theorem noSet {it : Expr} {env : PySem.Env} (h : notSet it = true) : ∀ x, foldedSetIterable it env x = pure x := by
  intro x
  cases it <;> first | rfl | (simp [notSet] at h)
theorem PG.ex {ι : Type} {e : Expr} {t : ι → TG} (h : ∀ i, PG X e (t i)) : PG X e (fun v σ H Q => ∃ i, t i v σ H Q) := ⟨fun pins s σ H v u Q I r ⟨i, q⟩ => (h i).run pins s σ H v u Q I r q⟩
theorem PSs.ex {ι : Type} {e : List Stmt} {t : ι → TS} (h : ∀ i, PSs X e (t i)) : PSs X e (fun D σ H => ∃ i, t i D σ H) := ⟨fun pins s σ H D I ⟨i, q⟩ => (h i).run pins s σ H D I q⟩
theorem s_forS {tg : Tg} {it : Ev.It} {b : Ss} {te ie : Expr} {bs : List Stmt} (hp : PassesOwn (model X.prog X.w) X.A X.env X.xe) (hc : X.calm = true) (hi : PI X te ie (tI X.K gl call XR W it)) (hg : ∀ fz, PG X te (tG X.K (okBut ok fz) tg))
    (hb : ∀ fz, PSs X bs (tSs X.K gl call XR W fuel (okBut ok fz) b)) (hs : notSet ie = true) : PS X (.For te ie bs [] pos) (tS X.K gl call XR W fuel ok (.loop tg it b)) := by
  refine impS (ps_for hp hc hi (PG.ex hg) (PSs.ex hb) (noSet hs)) fun D σ H q => ?_
  obtain ⟨α, m, g, s⟩ := q
  refine ⟨α, m, g, sat_mono (osat_o s) (fun q ρ f J xs src α1 H1 e1 wk fr e2 m1 g1 => ?_) fun _ _ z => z⟩
  obtain ⟨ds, fz⟩ := q
  subst e1 e2
  have f := osat_thaw fr m1 g1 f
  revert f
  generalize htn : (fun d ρ' => optO (stT (okBut ok fz) tg d ρ') fun ρ2 => evSs gl call fuel b (okBut ok fz) ρ2) = turn
  intro f
  refine ⟨fun i n σk Hk => n = xs.length - i ∧ i ≤ xs.length ∧ ∃ αk, Go X.K (okBut ok fz) σ α1 H1 σk αk Hk ∧ O.sat X.K XR W (okBut ok fz) σ α1 H1 D (forL turn (erL (xs.drop i)) (erL αk)), ⟨xs.length, by simp, Nat.zero_le _, α1, .refl m1 g1, f⟩, ?_⟩
  rintro i n σk Hk ⟨rfl, hi, αk, go, s⟩
  have won := wk.on g1 go.st
  have wki := wk.wk i Hk won.1
  by_cases hlt : i < xs.length
  · obtain ⟨hgo, hy⟩ := wki.1 xs[i] (by simp [hlt])
    refine .inr ⟨hgo, fun σ' H' => ∃ α', Go X.K (okBut ok fz) σ α1 H1 σ' α' H' ∧ O.sat X.K XR W (okBut ok fz) σ α1 H1 D (forL turn (erL (xs.drop (i + 1))) (erL α')), fun σ' H' h => ⟨xs.length - (i + 1), by omega, rfl, hlt, h⟩, fun x H' y => ?_⟩
    obtain ⟨rfl, rfl⟩ := hy x H' y
    rw [List.drop_eq_getElem_cons hlt] at s
    have s : O.sat X.K XR W (okBut ok fz) σ α1 H1 D ((turn (xs[i]).er (erL αk)).turn fun ρ' => forL turn (erL (xs.drop (i + 1))) ρ') := s
    have s := osat_turn s
    rw [← htn] at s
    obtain ⟨ρ', e1, s⟩ := osat_opt s
    have gi : Good X.K H' (xs[i] :: αk) := go.st.good.imm (okL_iff.mp won.2 _ (List.getElem_mem hlt)) (by
      have := wk.imm
      rw [immL_iff] at this
      exact this _ (by rw [erL_map]; exact List.mem_map_of_mem (List.getElem_mem hlt)))
    refine ⟨fz, xs[i], αk, ρ', rfl, go.m, gi, e1, fun σ' α' e m' g' sub kp => ?_⟩
    subst e
    refine ⟨fz, α', m', g', ?_⟩
    rw [htn] at s
    refine s.on (go.trans ⟨m', kp, stp_same g' fun p mp => ?_⟩)
    have := sub p mp
    rw [footL, imm_foot xs[i] (by
      have := wk.imm
      rw [immL_iff] at this
      exact this _ (by rw [erL_map]; exact List.mem_map_of_mem (List.getElem_mem hlt)))] at this
    exact this
  · have e : i = xs.length := by omega
    subst e
    rw [List.drop_length] at s
    exact .inl ⟨wki.2 (Nat.le_refl _), s σk αk Hk rfl go⟩
end
end Ev
end

section
set_option Elab.async false
set_option linter.all false
set_option maxRecDepth 100000
/-! EvB12: places, what is stored there. -/
namespace Ev
open PySem L2
def A.get : A → List D → Option A
  | x, [] => some x
  | .lst _ xs, .int k :: ss => match (Ev.ixN xs.length k).bind fun j => xs[j]? with
    | some x => x.get ss
    | none => none
  | _, _ :: _ => none
def A.put (y : A) : A → List D → A
  | _, [] => y
  | .lst a xs, .int k :: ss => match Ev.ixN xs.length k with
    | some j => match xs[j]? with
      | some x => .lst a (xs.set j (A.put y x ss))
      | none => .lst a xs
    | none => .lst a xs
  | x, _ :: _ => x
theorem er_lst' {x : A} {ds : List D} (h : x.er = .lst ds) : ∃ a xs, x = .lst a xs ∧ erL xs = ds := by
  obtain ⟨a, xs, rfl, rfl⟩ := er_lst h
  exact ⟨a, xs, rfl, rfl⟩
theorem erL_get {xs : List A} {j : Nat} : (erL xs)[j]? = (xs[j]?).map A.er := by rw [erL_map, List.getElem?_map]
theorem get_cons {x y : A} {s : D} {ss : List D} (h : A.get x (s :: ss) = some y) : ∃ a xs k j z, x = .lst a xs ∧ s = .int k ∧ Ev.ixN xs.length k = some j ∧ xs[j]? = some z ∧ A.get z ss = some y := by
  cases x <;> try (simp [A.get] at h; done)
  rename_i a xs
  cases s <;> try (simp [A.get] at h; done)
  rename_i k
  simp only [A.get] at h
  split at h
  · rename_i z e
    obtain ⟨j, e1, e2⟩ := Option.bind_eq_some_iff.mp e
    exact ⟨a, xs, k, j, z, rfl, rfl, e1, e2, h⟩
  · cases h
theorem get_er : ∀ (ss : List D) (x : A) (d : D), D.get x.er ss = some d → ∃ y, A.get x ss = some y ∧ y.er = d
  | [], x, d, h => by
    simp only [D.get, Option.some.injEq] at h
    exact ⟨x, rfl, h⟩
  | s :: ss, x, d, h => by
    unfold D.get at h
    split at h
    · rename_i heq
      exact absurd heq (by simp)
    · rename_i ds k ss' e1 e2
      cases e2
      obtain ⟨a, xs, rfl, rfl⟩ := er_lst' e1
      split at h
      · rename_i z e
        obtain ⟨j, e3, e4⟩ := Option.bind_eq_some_iff.mp e
        rw [erL_length] at e3
        rw [erL_get] at e4
        obtain ⟨w, e5, rfl⟩ := Option.map_eq_some_iff.mp e4
        obtain ⟨y, e6, e7⟩ := get_er ss w d h
        refine ⟨y, ?_, e7⟩
        simp only [A.get, e3, Option.bind_some, e5]
        exact e6
      · cases h
    · cases h
theorem get_append : ∀ (ss : List D) (x : A) (s : D), A.get x (ss ++ [s]) = (A.get x ss).bind fun y => A.get y [s]
  | [], x, s => rfl
  | t :: ss, x, s => by
    cases x <;> try (simp [A.get]; done)
    rename_i a xs
    cases t <;> try (simp [A.get]; done)
    rename_i k
    simp only [List.cons_append, A.get]
    cases (Ev.ixN xs.length k).bind fun j => xs[j]? with
    | none => rfl
    | some z => exact get_append ss z s
theorem upd_er {f : D → Option D} : ∀ (ss : List D) (x y y' : A) (d' : D), A.get x ss = some y → f y.er = some y'.er → D.upd f x.er ss = some d' → d' = (A.put y' x ss).er
  | [], x, y, y', d', h, hf, hu => by
    simp only [A.get, Option.some.injEq] at h
    subst h
    simp only [D.upd] at hu
    rw [hf] at hu
    cases hu
    simp only [A.put]
  | s :: ss, x, y, y', d', h, hf, hu => by
    obtain ⟨a, xs, k, j, z, rfl, rfl, e1, e2, e3⟩ := get_cons h
    simp only [A.er, D.upd, erL_length, e1, erL_get, e2, Option.map_some] at hu
    obtain ⟨w, e4, rfl⟩ := Option.map_eq_some_iff.mp hu
    have := upd_er ss z y y' w e3 hf e4
    simp only [A.put, e1, e2, A.er]
    rw [erL_set, this]
section
variable {K : PySem.W.Frag} {H H' : Hp}
/-- a list within a value is written -/
theorem put_at : ∀ (ss : List D) (x : A) (a : Addr) (ys ys' : List A), A.get x ss = some (.lst a ys) → (A.put (.lst a ys') x ss).val = x.val ∧
    ∃ l, x.foot.Perm ((true, a) :: (footL ys ++ l)) ∧ (A.put (.lst a ys') x ss).foot.Perm ((true, a) :: (footL ys' ++ l)) ∧
      (x.ok K H → H a = some (.lst (ys.map A.val)) ∧ okL K H ys ∧ (Fr [a] H H' → H' a = some (.lst (ys'.map A.val)) → ys'.length ≤ line → okL K H' ys' → (∀ p ∈ l, p.2 ≠ a) → (A.put (.lst a ys') x ss).ok K H'))
  | [], x, a, ys, ys', h => by
    simp only [A.get, Option.some.injEq] at h
    subst h
    refine ⟨rfl, [], by rw [A.foot]; simp, by simp [A.put, A.foot], fun o => ?_⟩
    rw [A.ok] at o
    refine ⟨o.1, o.2.2, fun _ h1 h2 h3 _ => ?_⟩
    rw [show A.put (A.lst a ys') (A.lst a ys) [] = .lst a ys' from rfl, A.ok]
    exact ⟨h1, h2, h3⟩
  | s :: ss, x, a, ys, ys', h => by
    obtain ⟨b, xs, k, j, z, rfl, rfl, e1, e2, e3⟩ := get_cons h
    obtain ⟨hv, l0, p0, p1, ho⟩ := put_at ss z a ys ys' e3
    have ep : A.put (.lst a ys') (.lst b xs) (.int k :: ss) = .lst b (xs.set j (A.put (.lst a ys') z ss)) := by simp only [A.put, e1, e2]
    rw [ep]
    obtain ⟨l1, q0, q1⟩ := footL_set e2
    refine ⟨rfl, (true, b) :: (l0 ++ l1), ?_, ?_, fun o => ?_⟩
    · rw [A.foot]
      have : (footL xs).Perm ((true, a) :: (footL ys ++ (l0 ++ l1))) := q0.trans ((List.Perm.append_right l1 p0).trans (by rw [List.cons_append, List.append_assoc]))
      exact (this.cons _).trans ((List.Perm.swap _ _ _).trans (List.Perm.cons _ List.perm_middle.symm))
    · rw [A.foot]
      have : (footL (xs.set j (A.put (.lst a ys') z ss))).Perm ((true, a) :: (footL ys' ++ (l0 ++ l1))) := (q1 _).trans ((List.Perm.append_right l1 p1).trans (by rw [List.cons_append, List.append_assoc]))
      exact (this.cons _).trans ((List.Perm.swap _ _ _).trans (List.Perm.cons _ List.perm_middle.symm))
    · rw [A.ok] at o
      have oz := okL_iff.mp o.2.2 z (List.mem_of_getElem? e2)
      obtain ⟨h1, h2, h3⟩ := ho oz
      refine ⟨h1, h2, fun fr ha hl hok hn => ?_⟩
      have nb : b ≠ a := hn (true, b) List.mem_cons_self
      have z' := h3 fr ha hl hok fun p hp => hn p (List.mem_cons_of_mem _ (List.mem_append_left _ hp))
      have oth : okL K H' (xs.set j .non) := by
        refine ok_frL fr (fun b' m => ?_) _ (okL_set o.2.2 trivial) fun p mp => ?_
        · have : b' = a := by simpa using m
          subst this; exact ⟨_, h1⟩
        · have mp := (q1 .non).mem_iff.mp mp
          have : p ∈ l1 := by simpa [A.foot] using mp
          intro e
          exact hn p (List.mem_cons_of_mem _ (List.mem_append_right _ this)) (by simpa using e)
      rw [A.ok]
      refine ⟨?_, by rw [List.length_set]; exact o.2.1, ?_⟩
      · have : (xs.set j (A.put (.lst a ys') z ss)).map A.val = xs.map A.val := by
          rw [List.map_set, hv]
          refine List.ext_getElem? fun n => ?_
          by_cases e : j = n
          · subst e
            have hl : j < xs.length := (List.getElem?_eq_some_iff.mp e2).1
            rw [List.getElem?_set_self (by simpa using hl), List.getElem?_map, e2]; rfl
          · rw [List.getElem?_set_ne e]
        rw [this]
        exact fr.1 b _ o.1 (by simpa using nb)
      · have := okL_set (i := j) oth z'
        rwa [List.set_set] at this
theorem write_ok {xs0 Δ α ys ys' : List A} {i : Nat} {root : A} {ss : List D} {a : Addr} (g : Good K H (xs0 ++ α)) (hr : α[i]? = some root) (hg : A.get root ss = some (.lst a ys)) (hl : ys'.length ≤ line) (ho : okL K H (Δ ++ ys'))
    (hp : ∃ l, (footL (xs0 ++ ys)).Perm (footL (Δ ++ ys') ++ l)) :
    Stp K (wrL α) (xs0 ++ α) H (Δ ++ α.set i (A.put (.lst a ys') root ss)) (upd H a (.lst (ys'.map A.val))) ∧ (A.put (.lst a ys') root ss).val = root.val := by
  obtain ⟨hv, l, p0, p1, hok⟩ := put_at (K := K) (H := H) (H' := upd H a (.lst (ys'.map A.val))) ss root a ys ys' hg
  obtain ⟨l1, q0, q1⟩ := footL_set hr
  obtain ⟨l2, p2⟩ := hp
  have go := okL_append.mp g.ok
  have oroot := okL_iff.mp go.2 root (List.mem_of_getElem? hr)
  obtain ⟨h1, h2, h3⟩ := hok oroot
  have fr : Fr [a] H (upd H a (.lst (ys'.map A.val))) := .put
  have wr : Wr [a] H := fun b m => by
    have : b = a := by simpa using m
    subst this; exact ⟨_, h1⟩
  -- all parts, before
  have old : (footL (xs0 ++ α)).Perm ((true, a) :: (footL (Δ ++ ys') ++ l2 ++ (l ++ l1))) := by
    rw [footL_append]
    have s1 : (footL α).Perm ((true, a) :: (footL ys ++ l ++ l1)) := q0.trans (List.Perm.append_right l1 p0)
    refine (List.Perm.append_left _ s1).trans (List.perm_middle.trans (List.Perm.cons _ ?_))
    rw [List.append_assoc (footL ys), ← List.append_assoc (footL xs0), ← footL_append]
    exact List.Perm.append_right _ p2
  have new : (footL (Δ ++ α.set i (A.put (.lst a ys') root ss))).Perm ((true, a) :: (footL (Δ ++ ys') ++ (l ++ l1))) := by
    rw [footL_append, footL_append]
    have s1 : (footL (α.set i (A.put (.lst a ys') root ss))).Perm ((true, a) :: (footL ys' ++ l ++ l1)) := (q1 _).trans (List.Perm.append_right l1 p1)
    refine (List.Perm.append_left _ s1).trans (List.perm_middle.trans (List.Perm.cons _ ?_))
    rw [List.append_assoc (footL ys'), ← List.append_assoc (footL Δ)]
  have nd := (old.map (·.2)).nodup_iff.mp g.nd
  rw [List.map_cons, List.nodup_cons] at nd
  have na : ∀ p, p ∈ footL (Δ ++ ys') ++ l2 ++ (l ++ l1) → p.2 ≠ a := fun p hp e => nd.1 (List.mem_map.mpr ⟨p, hp, e⟩)
  have om : okL K (upd H a (.lst (ys'.map A.val))) (Δ ++ ys') := ok_frL fr wr _ ho fun p mp e => na p (List.mem_append_left _ (List.mem_append_left _ mp)) (by simpa using e)
  have or' := h3 fr upd_same hl (okL_append.mp om).2 fun p mp => na p (List.mem_append_right _ (List.mem_append_left _ mp))
  have oth : okL K (upd H a (.lst (ys'.map A.val))) (α.set i .non) := ok_frL fr wr _ (okL_set go.2 trivial) fun p mp e => by
    have mp := (q1 .non).mem_iff.mp mp
    have : p ∈ l1 := by simpa [A.foot] using mp
    exact na p (List.mem_append_right _ (List.mem_append_right _ this)) (by simpa using e)
  have oα : okL K (upd H a (.lst (ys'.map A.val))) (α.set i (A.put (.lst a ys') root ss)) := by
    have := okL_set (i := i) oth or'
    rwa [List.set_set] at this
  refine ⟨⟨⟨okL_append.mpr ⟨(okL_append.mp om).1, oα⟩, ?_⟩, fr.mono fun b m => ?_, fun p mp => .inl (old.mem_iff.mpr ?_)⟩, hv⟩
  · refine (new.map (·.2)).nodup_iff.mpr ?_
    rw [List.map_cons, List.nodup_cons]
    have sub : ((footL (Δ ++ ys') ++ (l ++ l1)).map (·.2)).Sublist ((footL (Δ ++ ys') ++ l2 ++ (l ++ l1)).map (·.2)) := by
      refine List.Sublist.map _ ?_
      rw [List.append_assoc]
      exact List.Sublist.append_left (List.sublist_append_right _ _) _
    exact ⟨fun z => nd.1 (sub.subset z), nd.2.sublist sub⟩
  · have : b = a := by simpa using m
    subst this
    refine mem_wrL.mpr (q0.mem_iff.mpr (List.mem_append_left _ (p0.mem_iff.mpr List.mem_cons_self)))
  · rcases List.mem_cons.mp (new.mem_iff.mp mp) with e | e
    · rw [e]; exact List.mem_cons_self
    · refine List.mem_cons_of_mem _ ?_
      rcases List.mem_append.mp e with e | e
      · exact List.mem_append_left _ (List.mem_append_left _ e)
      · exact List.mem_append_right _ e
theorem Mt.same {σ : L2.St} {α : List A} {i : Nat} {x y : A} (m : Mt σ α) (h : α[i]? = some x) (hn : x ≠ .no) (hv : y.val = x.val) : Mt σ (α.set i y) := by
  refine ⟨by rw [List.length_set]; exact m.len, fun j z hz => ?_⟩
  by_cases e : i = j
  · subst e
    rw [List.getElem?_set_self (List.getElem?_eq_some_iff.mp h).1] at hz
    cases hz
    rw [hv]
    exact .inr ((m.at_ i x h).resolve_left hn)
  · rw [List.getElem?_set_ne e] at hz
    exact m.at_ j z hz
end
section
variable {X : Cx} {gl : Nat → Option D} {call : Nat → List D → R D} {XR : XRel} {W : WX} {fuel : Nat} {ok : Nat → Bool} {pos : Pos}
def tP (K : PySem.W.Frag) (gl : Nat → Option D) (call : Nat → List D → R D) (XR : XRel) (W : WX) (p : Ev.P) : TE := fun σ H Q => ∃ α, Mt σ α ∧ Good K H α ∧
  (evP gl call p (erL α)).sat (fun q _ => ∃ x y, α[q.1]? = some x ∧ x ≠ .no ∧ A.get x q.2 = some y ∧ ∀ H', Fr [] H H' → Q y.val H') (EX K XR W σ α H)
theorem Good.grow {K : PySem.W.Frag} {H H' : Hp} {α : List A} (g : Good K H α) (f : Fr [] H H') : Good K H' α := ⟨okL_grow f g.ok, g.nd⟩
theorem Stp.grow {K : PySem.W.Frag} {H H' : Hp} {W : List Addr} {α : List A} (g : Good K H α) (f : Fr [] H H') : Stp K W α H α H' := ⟨g.grow f, f.mono (by simp), fun p m => .inl m⟩
theorem rd_er' {α : List A} {i : Nat} {d : D} (h : rd (erL α) i = some d) : ∃ x, α[i]? = some x ∧ x.er = d ∧ x ≠ .no := rd_er h
theorem s_rootP {i : Nat} {x : Str} (hN : X.N[i]? = some x) (hv : Vis X.env.scope x) (hd : (x == ("__debug__" : Str)) = false) (hcd : (x == ("__classdict__" : Str)) = false) : PE X (.Name x pos) (tP X.K gl call XR W (.root i)) :=
  impE (pe_var hN hv hd hcd) fun σ H Q q => by
    obtain ⟨α, m, g, x, y, h1, h2, h3, k⟩ := q
    cases h3
    exact ⟨_, (m.at_ _ _ h1).resolve_left h2, k H .refl⟩
theorem get_one {y w : A} {d : D} (h : A.get y [d] = some w) : ∃ a ys k j, y = .lst a ys ∧ d = .int k ∧ Ev.ixN ys.length k = some j ∧ ys[j]? = some w := by
  obtain ⟨a, xs, k, j, z, rfl, rfl, e1, e2, e3⟩ := get_cons h
  simp only [A.get, Option.some.injEq] at e3
  subst e3
  exact ⟨a, xs, k, j, rfl, rfl, e1, e2⟩
theorem get_ok {K : PySem.W.Frag} {H : Hp} : ∀ (ss : List D) (x y : A), A.get x ss = some y → x.ok K H → y.ok K H
  | [], x, y, h, o => by
    simp only [A.get, Option.some.injEq] at h
    exact h ▸ o
  | s :: ss, x, y, h, o => by
    obtain ⟨a, xs, k, j, z, rfl, rfl, e1, e2, e3⟩ := get_cons h
    rw [A.ok] at o
    exact get_ok ss z y e3 (okL_iff.mp o.2.2 z (List.mem_of_getElem? e2))
/-- an index of a place, nothing changes -/
theorem quietV {e : Ev.E} {σ : L2.St} {α : List A} {H H1 : Hp} {K : PySem.W.Frag} {β : Type} {F : D → Env → R β} {P : β → Env → Prop} {Q : VK} (hq : e.quiet = true) (m : Mt σ α) (g : Good K H α) (f : Fr [] H H1) (s : ((evM gl call e .v (erL α)).bind F).sat P (EX K XR W σ α H))
    (k : ∀ (x : A) (ρ : Env) (H2 : Hp), Fr [] H1 H2 → (F x.er ρ).sat P (EX K XR W σ α H) → Q x.val H2) : tV K gl call XR W e σ H1 Q := by
  refine ⟨α, m, g.grow f, sat_mono (sat_bind.mp s) (fun d ρ h x α' H2 e1 e2 m' st => ?_) fun _ _ z => EX.on (q := false) (Stp.grow g f) z⟩
  subst e1
  have fr := st.fr
  unfold Wof at fr
  rw [if_pos hq] at fr
  exact k x ρ H2 fr h
theorem s_atP {p : Ev.P} {e : Ev.E} {ep ei : Expr} (hp : PE X ep (tP X.K gl call XR W p)) (he : SE X gl call XR W e ei) (hq : e.quiet = true) (hpl : plainE ei = true) : PE X (.Subscript ep ei pos) (tP X.K gl call XR W (.at p e)) := by
  refine impE (pe_ix ix_seq hp he.v (plainIx hpl)) fun σ H Q q => ?_
  obtain ⟨α, m, g, s⟩ := q
  refine ⟨α, m, g, sat_mono (sat_bind.mp s) (fun q ρ f => ?_) fun _ _ z => z⟩
  obtain ⟨d0, e0, f1⟩ := sat_opt.mp f
  obtain ⟨d1, e1, f2⟩ := sat_opt.mp f1
  clear f f1
  obtain ⟨x, x1, rfl, x3⟩ := rd_er e0
  obtain ⟨y, y1, rfl⟩ := get_er _ _ _ e1
  refine ⟨x, y, x1, x3, y1, fun H1 fr => ?_⟩
  refine quietV hq m g fr f2 fun k ρ H2 fr2 f => ?_
  obtain ⟨x', w, x1', x3', w1, kk⟩ := f
  rw [x1] at x1'
  cases x1'
  simp only [get_append, y1, Option.bind_some] at w1
  obtain ⟨a, ys, i, j, rfl, ek, ej, ew⟩ := get_one w1
  have oy := ok_grow fr2 (ok_grow fr (get_ok _ _ _ y1 (okL_iff.mp g.ok x (List.mem_of_getElem? x1))))
  rw [er_int ek]
  rw [A.ok] at oy
  refine .inl ⟨a, _, i, w.val, rfl, rfl, SqL.of oy.1, ?_, kk H2 ⟨fun b o h n => fr2.1 b o (fr.1 b o h (by simp)) (by simp), fun b h => fr2.2 b (fr.2 b h)⟩⟩
  unfold atI
  rw [← ixN_eq, List.length_map, ej]
  simp only [Option.bind_some, List.getElem?_map, ew]
  rfl
theorem upd_some {f : D → Option D} : ∀ (ss : List D) (x y : A) (d' : D), A.get x ss = some y → D.upd f x.er ss = some d' → ∃ w, f y.er = some w
  | [], x, y, d', h, hu => by
    simp only [A.get, Option.some.injEq] at h
    subst h
    exact ⟨d', by simpa only [D.upd] using hu⟩
  | s :: ss, x, y, d', h, hu => by
    obtain ⟨a, xs, k, j, z, rfl, rfl, e1, e2, e3⟩ := get_cons h
    simp only [A.er, D.upd, erL_length, e1, erL_get, e2, Option.map_some] at hu
    obtain ⟨w, e4, rfl⟩ := Option.map_eq_some_iff.mp hu
    exact upd_some ss z y w e3 e4
/-- the target o[i] -/
def tGp (K : PySem.W.Frag) (gl : Nat → Option D) (call : Nat → List D → R D) (XR : XRel) (W : WX) (p : Ev.P) : TG := fun v σ H Q => ∃ x α, v = x.val ∧ Mt σ α ∧ Good K H (x :: α) ∧
  (evP gl call p (erL α)).sat (fun q _ => ∃ d d', rd (erL α) q.1 = some d ∧ D.putAt x.er d q.2 = some d' ∧ ∀ α' H', erL α' = (erL α).set q.1 d' → Mt σ α' → Stp K (wrL α) (x :: α) H α' H' → Q σ H') (EX K XR W σ α H)
theorem s_subG {p : Ev.P} {e : Ev.E} {ep ei : Expr} (hp : PE X ep (tP X.K gl call XR W p)) (he : SE X gl call XR W e ei) (hq : e.quiet = true) (hpl : plainE ei = true) : PG X (.Subscript ep ei pos) (tGp X.K gl call XR W (.at p e)) := by
  refine impG (pg_sub hp he.v set_list (fun v => by cases ei <;> first | rfl | (simp [plainE] at hpl))) fun v σ H Q q => ?_
  obtain ⟨x, α, rfl, m, g, s⟩ := q
  refine ⟨α, m, g.tail, sat_mono (sat_bind.mp s) (fun q ρ f => ?_) fun _ _ z => z⟩
  obtain ⟨d0, e0, f1⟩ := sat_opt.mp f
  obtain ⟨d1, e1, f2⟩ := sat_opt.mp f1
  clear f f1
  obtain ⟨r, x1, rfl, x3⟩ := rd_er e0
  obtain ⟨y, y1, rfl⟩ := get_er _ _ _ e1
  refine ⟨r, y, x1, x3, y1, fun H1 fr => ?_⟩
  refine quietV hq m g.tail fr f2 fun k ρ H2 fr2 f => ?_
  obtain ⟨d, d', e2, e3, kk⟩ := f
  simp only at e2
  rw [e0] at e2
  cases e2
  simp only [D.putAt, List.getLast?_append, List.getLast?_singleton, Option.some_or, List.dropLast_concat] at e3
  -- the list that is written
  obtain ⟨w, hw⟩ := upd_some _ _ _ _ y1 e3
  obtain ⟨a, ys, i, j, rfl, ek, ej⟩ : ∃ a ys i j, y = .lst a ys ∧ k.er = .int i ∧ Ev.ixN ys.length i = some j := by
    split at hw
    · rename_i ds i' e4 e5
      obtain ⟨a, ys, rfl, rfl⟩ := er_lst' e4
      obtain ⟨j, ej, _⟩ := Option.map_eq_some_iff.mp hw
      rw [erL_length] at ej
      exact ⟨a, ys, i', j, rfl, e5, ej⟩
    · cases hw
  have hd : d' = (A.put (.lst a (ys.set j x)) r q.2).er := by
    refine upd_er _ _ (.lst a ys) (.lst a (ys.set j x)) d' y1 ?_ e3
    rw [ek]
    simp only [A.er, erL_length, ej, Option.map_some, erL_set]
  have fr0 : Fr [] H H2 := ⟨fun b o h n => fr2.1 b o (fr.1 b o h (by simp)) (by simp), fun b h => fr2.2 b (fr.2 b h)⟩
  have g2 : Good X.K H2 ([x] ++ α) := g.grow fr0
  have oy := get_ok _ _ _ y1 (okL_iff.mp (okL_append.mp g2.ok).2 r (List.mem_of_getElem? x1))
  rw [A.ok] at oy
  have hj : j < ys.length := by
    unfold Ev.ixN at ej
    split at ej
    · split at ej <;> simp at ej; omega
    · split at ej <;> simp at ej; omega
  obtain ⟨l, p0, p1⟩ := footL_set (α := ys) (i := j) (x := ys[j]) (by simp [hj])
  have wk := write_ok (Δ := []) (ys' := ys.set j x) g2 x1 y1 (by rw [List.length_set]; exact oy.2.1) (by rw [List.nil_append]; exact okL_set oy.2.2 g2.ok.1) ⟨(ys[j]).foot, by
    show (x.foot ++ footL ys).Perm (footL (ys.set j x) ++ (ys[j]).foot)
    refine (List.Perm.append_left _ p0).trans ?_
    refine List.Perm.trans ?_ (List.Perm.append_right _ (p1 x)).symm
    rw [List.append_assoc]
    exact List.Perm.append_left _ List.perm_append_comm⟩
  rw [er_int ek]
  refine ⟨a, _, i, j, rfl, rfl, oy.1, by rw [List.length_map, ← ixN_eq]; exact ej, ?_⟩
  have em : (ys.map A.val).set j x.val = (ys.set j x).map A.val := by rw [List.map_set]
  rw [em]
  refine kk (α.set q.1 (A.put (.lst a (ys.set j x)) r q.2)) _ (by rw [erL_set, hd]) (m.same x1 x3 wk.2) ?_
  exact (Stp.grow (W := wrL α) g fr0).trans wk.1 fun b hb => .inl hb
theorem swS_false {e t : Expr} {l : Nat} {env : PySem.Env} (h : noComp e = true) : swapsWithSole [t] e l env = pure false := (show swapsWithSole [t] e l env = swapsWith e (some t) l env from rfl).trans (sw_false h)
/-- o[i] = value -/
theorem s_putS {e i : Ev.E} {p : Ev.P} {ex ep ei : Expr} {p2 : Pos} (he : SE X gl call XR W e ex) (hp : PE X ep (tP X.K gl call XR W p)) (hi : SE X gl call XR W i ei) (hq : i.quiet = true) (hpl : plainE ei = true) (hn : noComp ex = true) :
    PS X (.Assign [.Subscript ep ei p2] ex pos) (tS X.K gl call XR W fuel ok (.put (.at p i) e)) := by
  refine impS (ps_asg he.v (s_subG hp hi hq hpl) (swS_false hn) rfl) fun D σ H q => ?_
  obtain ⟨α, m, g, s⟩ := q
  have s0 : O.sat X.K XR W ok σ α H D ((evM gl call e .v (erL α)).o fun v ρ1 => (evP gl call (.at p i) ρ1).o fun q _ => optO (rd ρ1 q.1) fun d => optO (Ev.D.putAt v d q.2) fun d' => .nx (ρ1.set q.1 d')) := s
  refine ⟨α, m, g, sat_mono (osat_o s0) (fun d ρ f x α1 H1 e1 e2 m1 st => ?_) fun _ _ z => z⟩
  subst e1 e2
  have st1 : Stp X.K (wrL α) α H α1 H1 := Stp.right (Δ := [x]) st.asF
  refine ⟨x, α1, rfl, m1, st.good, sat_mono (osat_o' ⟨m1, .refl, st1⟩ f) (fun q ρ f => ?_) fun _ _ z => z⟩
  obtain ⟨d, e1, f⟩ := osat_opt f
  obtain ⟨d', e2, f⟩ := osat_opt f
  exact ⟨d, d', e1, e2, fun α' H' ea m' st' => f σ α' H' ea ⟨m', .refl, st.asF.trans st' st1.wsub⟩⟩
/-- name op= value -/
theorem s_augS {i : Nat} {o : Op2} {op : Operator} {x : Str} {e : Ev.E} {ex : Expr} {p2 : Pos} (ho : (o = .add ∧ op = .Add) ∨ (o = .sub ∧ op = .Sub)) (hN : X.N.Nodup) (hi : X.N[i]? = some x) (hx : Loc X.env.scope x) (hf : X.fn x = true ∨ X.env.scope.names.lookup x = some .local) (he : SE X gl call XR W e ex) :
    PS X (.AugAssign (.Name x p2) op ex pos) (tS X.K gl call XR W fuel ok (.aug i o e)) := by
  have core : ∀ (fn : Int → Int → Int), (∀ a b, o.runI a b = some (fn a b)) → ∀ D σ H, tS X.K gl call XR W fuel ok (.aug i o e) D σ H → tAug i (tV X.K gl call XR W e) (ipI fn) D σ H := by
    intro fn hf D σ H q
    obtain ⟨α, m, g, s⟩ := q
    obtain ⟨d, ed, s⟩ := osat_opt s
    obtain ⟨a, ea, s⟩ := osat_opt s
    rw [int?_some ea] at ed
    obtain ⟨y, y1, y2, y3⟩ := rd_at m ed
    rw [er_int y2] at y3
    refine ⟨_, y3, α, m, g, sat_mono (osat_o s) (fun d ρ f x α1 H1 e1 e2 m1 st => ?_) fun _ _ z => z⟩
    subst e1 e2
    obtain ⟨b, eb, f⟩ := osat_opt f
    obtain ⟨z, ez, f⟩ := osat_opt f
    obtain ⟨ρ', er, f⟩ := osat_opt f
    rw [hf] at ez
    cases ez
    refine ⟨a, b, rfl, by rw [er_int (int?_some eb)]; rfl, ?_⟩
    simp only [stT] at er
    split at er
    · rename_i c
      cases er
      rw [erL_length] at c
      have st1 : Stp X.K (wrL α) α H α1 H1 := Stp.right (Δ := [x]) st.asF
      have gz : Good X.K H1 (A.int (fn a b) :: α1) := st1.good.imm (w := A.int (fn a b)) trivial rfl
      have gs := gz.store c.1
      refine f (σ.set i (some (A.int (fn a b)).val)) (α1.set i (.int (fn a b))) H1 (by rw [erL_set]; rfl) ⟨m1.store, ⟨by rw [List.length_set], fun j hj => ?_⟩, st1.trans (W' := []) (stp_same gs.1 fun p mp => by have := gs.2 p mp; simpa [footL, A.foot] using this) (by simp)⟩
      have : i ≠ j := fun e => by subst e; rw [c.2] at hj; cases hj
      exact List.getElem?_set_ne this
    · cases er
  rcases ho with ⟨rfl, rfl⟩ | ⟨rfl, rfl⟩
  · exact impS (ps_aug hN hi hx he.v ip_add hf) (core _ fun _ _ => rfl)
  · exact impS (ps_aug hN hi hx he.v ip_sub hf) (core _ fun _ _ => rfl)
end
end Ev
end

section
set_option Elab.async false
set_option linter.all false
set_option maxRecDepth 100000
/-! EvB13: methods of lists; several names stored at once. -/
namespace Ev
open PySem L2
def Mth.id : Mth → String
  | .append => "list.append"
  | .extend => "list.extend"
  | .pop => "list.pop"
  | .reverse => "list.reverse"
  | _ => ""
def Mth.nm : Mth → Str
  | .append => "append"
  | .extend => "extend"
  | .pop => "pop"
  | .reverse => "reverse"
  | _ => ""
def Mth.r : Mth → V → List V → Hp → VK → Prop
  | .append => rAppend
  | .extend => rExtend
  | .pop => rPop
  | .reverse => rReverse
  | _ => fun _ _ _ _ => False
def Mth.known : Mth → Bool
  | .append | .extend | .pop | .reverse => true
  | _ => false
theorem Mth.is {X : Cx} : ∀ {k : Mth}, k.known = true → MtR X k.id k.r
  | .append, _ => mt_append
  | .extend, _ => mt_extend
  | .pop, _ => mt_pop
  | .reverse, _ => mt_reverse
  | .popAt, h => by cases h
  | .insert, h => by cases h
  | .remove, h => by cases h
  | .index, h => by cases h
  | .count, h => by cases h
theorem Mth.slot : ∀ {k : Mth}, k.known = true → PySem.Slot "list" k.nm k.id
  | .append, _ => PySem.F.slot_list_append
  | .extend, _ => PySem.F.slot_list_extend
  | .pop, _ => PySem.F.slot_list_pop
  | .reverse, _ => PySem.F.slot_list_reverse
  | .popAt, h => by cases h
  | .insert, h => by cases h
  | .remove, h => by cases h
  | .index, h => by cases h
  | .count, h => by cases h
theorem Mth.ty : ∀ {k : Mth}, k.known = true → typeOf (.builtin k.id) = pure (.type "method_descriptor")
  | .append, _ => PySem.F.type_list_append
  | .extend, _ => PySem.F.type_list_extend
  | .pop, _ => PySem.F.type_list_pop
  | .reverse, _ => PySem.F.type_list_reverse
  | .popAt, h => by cases h
  | .insert, h => by cases h
  | .remove, h => by cases h
  | .index, h => by cases h
  | .count, h => by cases h
theorem erL_reverse (xs : List A) : erL xs.reverse = (erL xs).reverse := by simp [erL_map]
theorem erL_eq_one {xs : List A} {d : D} (h : erL xs = [d]) : ∃ x, xs = [x] ∧ x.er = d := by
  cases xs with
  | nil => simp [erL] at h
  | cons x xs => cases xs with
    | nil => exact ⟨x, rfl, by simpa [erL] using h⟩
    | cons y ys => simp [erL] at h
theorem erL_eq_nil {xs : List A} (h : erL xs = []) : xs = [] := by
  cases xs with
  | nil => rfl
  | cons x xs => simp [erL] at h
theorem Mth.ok {K : PySem.W.Frag} {H : Hp} {k : Mth} {ys xs : List A} {a : Addr} {r : D × List D} (h : k.run (erL ys) (erL xs) = some r) (hH : H a = some (.lst (ys.map A.val))) (ox : okL K H xs) (oy : okL K H ys) (ol : ys.length ≤ line) :
    ∃ (w : A) (ys' : List A), w.er = r.1 ∧ erL ys' = r.2 ∧ ys'.length ≤ line ∧ okL K H ([w] ++ ys') ∧ (∃ l, (footL (xs ++ ys)).Perm (footL ([w] ++ ys') ++ l)) ∧
      ∀ Q : VK, Q w.val (upd H a (.lst (ys'.map A.val))) → k.r (.ref a) (xs.map A.val) H Q := by
  unfold Mth.run at h
  split at h
  · rename_i x e
    obtain ⟨z, rfl, rfl⟩ := erL_eq_one e
    split at h
    · rename_i hl
      cases h
      rw [erL_length] at hl
      refine ⟨.non, ys ++ [z], rfl, by rw [erL_append]; rfl, by rw [List.length_append]; exact hl, show okL K H (.non :: (ys ++ [z])) from ⟨trivial, okL_append.mpr ⟨oy, ox⟩⟩, ⟨[], ?_⟩, fun Q q => ⟨a, _, z.val, rfl, rfl, hH, by rw [List.length_map, ← line_eq]; exact hl, ?_⟩⟩
      · rw [List.append_nil]
        show (footL ([z] ++ ys)).Perm (footL (ys ++ [z]))
        rw [footL_append, footL_append]
        exact List.perm_append_comm
      · rw [List.map_append] at q; exact q
    · cases h
  · rename_i zs e
    obtain ⟨z, rfl, ez⟩ := erL_eq_one e
    obtain ⟨b, zs', rfl, rfl⟩ := er_lst' ez
    split at h
    · rename_i hl
      cases h
      rw [erL_length, erL_length] at hl
      have ob := ox.1
      rw [A.ok] at ob
      refine ⟨.non, ys ++ zs', rfl, by rw [erL_append], by rw [List.length_append]; exact hl.1, show okL K H (.non :: (ys ++ zs')) from ⟨trivial, okL_append.mpr ⟨oy, ob.2.2⟩⟩, ⟨[(true, b)], ?_⟩, fun Q q => ⟨a, b, _, _, rfl, rfl, hH, ob.1, by rw [List.length_map, List.length_map, ← line_eq]; exact hl.1, ?_⟩⟩
      · show ((A.lst b zs').foot ++ footL ys).Perm (footL (ys ++ zs') ++ [(true, b)])
        rw [footL_append, A.foot, List.cons_append]
        refine (List.Perm.cons _ List.perm_append_comm).trans ?_
        exact (List.perm_append_singleton _ _).symm
      · rw [List.map_append] at q; exact q
    · cases h
  · rename_i e
    have := erL_eq_nil e
    subst this
    split at h
    · rename_i v ev
      cases h
      rw [erL_map, List.getLast?_map] at ev
      obtain ⟨w, ew, rfl⟩ := Option.map_eq_some_iff.mp ev
      have hne : ys ≠ [] := by rintro rfl; simp at ew
      have hw : ys.dropLast ++ [w] = ys := by
        rw [List.getLast?_eq_some_getLast hne, Option.some.injEq] at ew
        rw [← ew]
        exact List.dropLast_concat_getLast hne
      have oy' : okL K H (ys.dropLast ++ [w]) := by rw [hw]; exact oy
      have oo := okL_append.mp oy'
      refine ⟨w, ys.dropLast, rfl, by rw [erL_map, erL_map, List.map_dropLast], by rw [List.length_dropLast]; omega, okL_append.mpr ⟨oo.2, oo.1⟩, ⟨[], ?_⟩, fun Q q => ⟨a, _, w.val, rfl, rfl, hH, ?_, ?_⟩⟩
      · rw [List.append_nil, List.nil_append]
        conv => lhs; rw [← hw]
        rw [footL_append, footL_append]
        exact List.perm_append_comm
      · have : (ys.map A.val)[(ys.map A.val).length - 1]? = (ys.map A.val).getLast? := List.getLast?_eq_getElem?.symm
        rw [this, List.getLast?_map, ew]; rfl
      · rw [List.map_dropLast] at q; exact q
    · cases h
  · rename_i e
    have := erL_eq_nil e
    subst this
    cases h
    have pr : (footL ys.reverse).Perm (footL ys) := by
      clear oy ol hH
      induction ys with
      | nil => exact .refl _
      | cons y ys ih =>
        rw [List.reverse_cons, footL_append, footL]
        refine (List.Perm.append_right _ ih).trans ?_
        rw [footL, footL, List.append_nil]
        exact List.perm_append_comm
    refine ⟨.non, ys.reverse, rfl, erL_reverse ys, by rw [List.length_reverse]; exact ol, show okL K H (.non :: ys.reverse) from ⟨trivial, okL_iff.mpr fun x m => okL_iff.mp oy x (by simpa using m)⟩, ⟨[], ?_⟩, fun Q q => ⟨a, _, rfl, rfl, hH, ?_⟩⟩
    · rw [List.append_nil]
      exact pr.symm
    · rw [List.map_reverse] at q; exact q
  · cases h
theorem get_det {K : PySem.W.Frag} {H : Hp} : ∀ (ss : List D) (x x2 y y2 : A), A.get x ss = some y → A.get x2 ss = some y2 → x.ok K H → x2.ok K H → x.val = x2.val → y.val = y2.val
  | [], x, x2, y, y2, h, h2, _, _, e => by
    simp only [A.get, Option.some.injEq] at h h2
    rw [← h, ← h2]; exact e
  | s :: ss, x, x2, y, y2, h, h2, o, o2, e => by
    obtain ⟨a, xs, k, j, z, rfl, rfl, e1, e2, e3⟩ := get_cons h
    obtain ⟨a', xs', k', j', z', rfl, ek, f1, f2, f3⟩ := get_cons h2
    cases ek
    have ea : a = a' := by simpa [A.val] using e
    subst ea
    rw [A.ok] at o o2
    have em : xs.map A.val = xs'.map A.val := by
      have := o.1.symm.trans o2.1
      simpa using this
    have ln : xs.length = xs'.length := by simpa using congrArg List.length em
    rw [ln, f1] at e1
    cases e1
    refine get_det ss z z' y y2 e3 f3 (okL_iff.mp o.2.2 z (List.mem_of_getElem? e2)) (okL_iff.mp o2.2.2 z' (List.mem_of_getElem? f2)) ?_
    have := congrArg (fun l => l[j]?) em
    simp only [List.getElem?_map, e2, f2, Option.map_some, Option.some.injEq] at this
    exact this
theorem sat_and {α : Type} {r : Ev.R α} {P P' : α → Env → Prop} {E E' : Ex → Env → Prop} (h : r.sat P E) (h' : r.sat P' E') : r.sat (fun a ρ => P a ρ ∧ P' a ρ) (fun x ρ => E x ρ ∧ E' x ρ) := by
  cases r with
  | ok a ρ => exact ⟨h, h'⟩
  | rz x ρ => exact ⟨h, h'⟩
  | st => exact h
theorem lst?_some {d : D} {xs : List D} (h : d.lst? = some xs) : d = .lst xs := by cases d <;> simp [D.lst?] at h <;> rw [h]
section
variable {X : Cx} {gl : Nat → Option D} {call : Nat → List D → R D} {XR : XRel} {W : WX} {fuel : Nat} {ok : Nat → Bool} {pos : Pos}
theorem mth_core {k : Mth} {p : Ev.P} {es : Ev.Es} {σ : L2.St} {H : Hp} {Q : VK} {K : PySem.W.Frag} (hq : p.isRoot = true ∨ es.quiet = true) (q : tV K gl call XR W (.mth k p es) σ H Q) :
    tP K gl call XR W p σ H fun x H1 => tyV K "list" x H1 ∧ tEs K gl call XR W es σ H1 fun xs H2 => k.r x xs H2 Q := by
  obtain ⟨α, m, g, s⟩ := q
  have s := sat_bind.mp s
  have hr : (evP gl call p (erL α)).sat (fun q ρ => p.isRoot = true → q.2 = []) fun _ _ => True := by
    cases hp : evP gl call p (erL α) with
    | ok a ρ =>
      intro h
      cases p with
      | root i => cases hp; rfl
      | «at» p e => simp [P.isRoot] at h
    | rz x ρ => trivial
    | st => rw [hp] at s; exact s.elim
  refine ⟨α, m, g, sat_mono (sat_and s hr) (fun q ρ f00 => ?_) fun _ _ z => z.1⟩
  obtain ⟨f0, hroot⟩ := f00
  obtain ⟨d0, e0, f1⟩ := sat_opt.mp f0
  obtain ⟨c0, e1, f2⟩ := sat_opt.mp f1
  obtain ⟨zs, e2, f3⟩ := sat_opt.mp f2
  clear f0 f1 f2 s
  obtain ⟨x, x1, rfl, x3⟩ := rd_er e0
  obtain ⟨y, y1, rfl⟩ := get_er _ _ _ e1
  obtain ⟨a, ys, rfl, rfl⟩ := er_lst' (lst?_some e2)
  refine ⟨x, _, x1, x3, y1, fun H1 fr => ?_⟩
  have ox := ok_grow fr (okL_iff.mp g.ok x (List.mem_of_getElem? x1))
  have oy := get_ok _ _ _ y1 ox
  have oy' := oy
  rw [A.ok] at oy'
  refine ⟨.inl ⟨rfl, _, SqL.of oy'.1⟩, α, m, g.grow fr, sat_mono (sat_bind.mp f3) (fun ds ρ2 f xs α2 H2 ea eb m2 st => ?_) fun _ _ z => EX.on (q := false) (Stp.grow g fr) z⟩
  subst ea eb
  obtain ⟨d, h1, f4⟩ := sat_opt.mp f
  obtain ⟨c, h2, f5⟩ := sat_opt.mp f4
  obtain ⟨zs2, h3, f6⟩ := sat_opt.mp f5
  obtain ⟨r, h4, f7⟩ := sat_opt.mp f6
  obtain ⟨d', h5, f8⟩ := sat_opt.mp f7
  clear f f4 f5 f6 f7
  obtain ⟨x2, x21, rfl, x23⟩ := rd_er h1
  obtain ⟨y2, y21, rfl⟩ := get_er _ _ _ h2
  obtain ⟨a2, ys2, rfl, rfl⟩ := er_lst' (lst?_some h3)
  have ox2 := okL_iff.mp (okL_append.mp st.good.ok).2 x2 (List.mem_of_getElem? x21)
  have hval : x.val = x2.val := by
    have v1 := (m.at_ _ _ x1).resolve_left x3
    have v2 := (m2.at_ _ _ x21).resolve_left x23
    rw [v1] at v2
    simpa using v2
  have ea : a2 = a := by
    rcases hq with hq | hq
    · have := hroot hq
      rw [this] at y1 y21
      simp only [A.get, Option.some.injEq] at y1 y21
      rw [y1, y21] at hval
      simpa [A.val] using hval.symm
    · have fr2 := st.fr
      unfold Wof at fr2
      rw [if_pos hq] at fr2
      have := get_det _ _ _ _ _ y1 y21 (ok_grow fr2 ox) ox2 hval
      simpa [A.val] using this.symm
  subst ea
  have oy2 := get_ok _ _ _ y21 ox2
  rw [A.ok] at oy2
  obtain ⟨w, ys', w1, w2, w3, w4, w5, w6⟩ := Mth.ok h4 oy2.1 (okL_append.mp st.good.ok).1 oy2.2.2 oy2.2.1
  refine w6 Q ?_
  have wk := write_ok st.good x21 y21 w3 w4 w5
  have hd : d' = (A.put (.lst a2 ys') x2 q.2).er := upd_er _ _ (.lst a2 ys2) (.lst a2 ys') d' y21 (by rw [A.er, w2]) h5
  have s01 : Stp K (wrL α) α H (xs ++ α2) H2 := (Stp.grow (W := wrL α) g fr).trans st.asF fun b hb => .inl hb
  refine f8 w (α2.set q.1 (A.put (.lst a2 ys') x2 q.2)) _ w1 (by rw [erL_set, hd]) (m2.same x21 x23 wk.2) ?_
  exact s01.trans wk.1 fun b hb => s01.wsub b (mem_wrL.mpr (by rw [footL_append]; exact List.mem_append_right _ (mem_wrL.mp hb)))
/-- o.m() -/
theorem s_mth0 {k : Mth} {p : Ev.P} {ep : Expr} {nm : Str} {p2 : Pos} (hk : k.known = true) (hn : nm = k.nm) (hp : PE X ep (tP X.K gl call XR W p)) (hbase : attributeBase ep nm X.env (eval ep X.env) = eval ep X.env) (hline : (p2.endLine == pos.line) = true) :
    SE X gl call XR W (.mth k p .nil) (.Call (.Attribute ep nm p2) [] [] pos) := by
  subst hn
  refine SE.temp (impE (pe_bm0 PySem.F.plainAttrs_list (Mth.slot hk) (Mth.ty hk) (Mth.is hk) hp hbase hline) fun σ H Q q => ?_) rfl (fun _ => rfl) (fun _ => rfl) fun _ _ => rfl
  obtain ⟨α, m, g, s⟩ := mth_core (.inr rfl) q
  refine ⟨α, m, g, sat_mono s (fun q ρ f => ?_) fun _ _ z => z⟩
  obtain ⟨x, y, h1, h2, h3, k⟩ := f
  refine ⟨x, y, h1, h2, h3, fun H' fr => ?_⟩
  obtain ⟨k1, α', m', g', k2⟩ := k H' fr
  exact ⟨k1, k2 [] α' H' rfl rfl m' (Stp.refl g')⟩
/-- o.m(e) -/
theorem s_mth1 {k : Mth} {p : Ev.P} {e : Ev.E} {ep ex : Expr} {nm : Str} {p2 : Pos} (hk : k.known = true) (hn : nm = k.nm) (hp : PE X ep (tP X.K gl call XR W p)) (he : SE X gl call XR W e ex) (hq : p.isRoot = true ∨ e.quiet = true) (hpl : plainE ex = true)
    (hbase : attributeBase ep nm X.env (eval ep X.env) = eval ep X.env) (hline : (p2.endLine == pos.line) = true) :
    SE X gl call XR W (.mth k p (.cons e .nil)) (.Call (.Attribute ep nm p2) [ex] [] pos) := by
  subst hn
  have h1 : starEach [ex] X.env = [(false, eval ex X.env)] := starCons hpl
  refine SE.temp (impE (pe_bm PySem.F.plainAttrs_list (Mth.slot hk) (Mth.ty hk) (Mth.is hk) hp (s_consE he s_nilE hpl) hbase (by rw [h1]; rfl) hline h1 rfl) fun σ H Q q => ?_) rfl (fun _ => rfl) (fun _ => rfl) fun _ _ => rfl
  exact mth_core (hq.imp id fun z => by show (e.quiet && true) = true; rw [z]; rfl) q
theorem setL_ok {K : PySem.W.Frag} : ∀ {is : List Nat} {xs : List A} {σ : L2.St} {α : List A} {H : Hp} {ρ : Env}, Mt σ α → Good K H (xs ++ α) → setL ok is (erL xs) (erL α) = some ρ →
    ∃ α', erL α' = ρ ∧ Mt ((is.zip xs).foldl (fun σ p => σ.set p.1 (some p.2.val)) σ) α' ∧ KeepS ok σ ((is.zip xs).foldl (fun σ p => σ.set p.1 (some p.2.val)) σ) ∧ Good K H α' ∧ (∀ p ∈ footL α', p ∈ footL (xs ++ α)) ∧ is.length = xs.length
  | [], [], σ, α, H, ρ, m, g, h => by
    simp [setL, erL] at h
    exact ⟨α, h, m, .refl, g, fun _ z => z, rfl⟩
  | [], x :: xs, σ, α, H, ρ, m, g, h => by simp [setL, erL] at h
  | i :: is, [], σ, α, H, ρ, m, g, h => by simp [setL, erL] at h
  | i :: is, x :: xs, σ, α, H, ρ, m, g, h => by
    simp only [erL, setL] at h
    split at h
    · rename_i c
      rw [erL_length] at c
      have g0 : Good K H (x :: (xs ++ α)) := g
      have pm : (footL (x :: (xs ++ α))).Perm (footL (xs ++ (x :: α))) := by
        rw [footL_append]
        show (x.foot ++ footL (xs ++ α)).Perm (footL xs ++ (x.foot ++ footL α))
        rw [footL_append, ← List.append_assoc, ← List.append_assoc]
        exact List.Perm.append_right _ List.perm_append_comm
      have gf : Good K H (xs ++ (x :: α)) := g0.perm (okL_append.mpr ⟨(okL_append.mp g0.ok.2).1, g0.ok.1, (okL_append.mp g0.ok.2).2⟩) pm
      have gs := gf.right.store c.1
      have g2 : Good K H (xs ++ α.set i x) := (Stp.frame (W := []) gf (stp_same gs.1 gs.2) (by simp)).good
      rw [← erL_set] at h
      obtain ⟨α', a1, a2, a3, a4, a5, a6⟩ := setL_ok (m.store (i := i) (x := x)) g2 h
      refine ⟨α', a1, a2, KeepS.trans ⟨by rw [List.length_set], fun j hj => ?_⟩ a3, a4, fun p mp => ?_, by rw [List.length_cons, List.length_cons, a6]⟩
      · have : i ≠ j := fun e => by subst e; rw [c.2] at hj; cases hj
        exact List.getElem?_set_ne this
      · refine pm.mem_iff.mpr ?_
        have := a5 p mp
        rw [footL_append] at this ⊢
        rcases List.mem_append.mp this with z | z
        · exact List.mem_append_left _ z
        · exact List.mem_append_right _ (gs.2 p z)
    · cases h
theorem zip_val : ∀ (is : List Nat) (xs : List A) (σ : L2.St), ((is.zip xs).foldl (fun σ p => σ.set p.1 (some p.2.val)) σ) = ((is.zip (xs.map A.val)).foldl (fun σ p => σ.set p.1 (some p.2)) σ)
  | [], _, _ => rfl
  | _ :: _, [], _ => rfl
  | i :: is, x :: xs, σ => zip_val is xs _
theorem par_core {is : List Nat} {es : Ev.Es} {D : Ends} {σ : L2.St} {H : Hp} {K : PySem.W.Frag} (q : tS K gl call XR W fuel ok (.par is es) D σ H) :
    tEs K gl call XR W es σ H fun vs H1 => is.length = vs.length ∧ D.nx ((is.zip vs).foldl (fun σ p => σ.set p.1 (some p.2)) σ) H1 := by
  obtain ⟨α, m, g, s⟩ := q
  refine ⟨α, m, g, sat_mono (osat_o s) (fun ds ρ f xs α1 H1 e1 e2 m1 st => ?_) fun _ _ z => z⟩
  subst e1 e2
  obtain ⟨ρ', e3, f1⟩ := osat_opt f
  obtain ⟨α', a1, a2, a3, a4, a5, a6⟩ := setL_ok m1 st.good e3
  refine ⟨by rw [List.length_map]; exact a6, ?_⟩
  rw [← zip_val]
  exact f1 _ α' H1 a1 ⟨a2, a3, st.asF.trans (W' := []) (stp_same a4 a5) (by simp)⟩
theorem s_parS {i j : Nat} {x y : Str} {es : Ev.Es} {a b : Expr} {px py pt : Pos} {kt k2 pt2} (hc : X.calm = true) (hN : X.N.Nodup) (hi : X.N[i]? = some x) (hj : X.N[j]? = some y) (hij : i ≠ j)
    (hx : X.env.scope.names.lookup x = some .local) (hy : X.env.scope.names.lookup y = some .local) (ha : PA X [a, b] (tEs X.K gl call XR W es))
    (hw : swappedStores [.Tuple [.Name x px, .Name y py] kt pt] (.Tuple [a, b] k2 pt2) X.env = pure (some [x, y])) :
    PS X (.Assign [.Tuple [.Name x px, .Name y py] kt pt] (.Tuple [a, b] k2 pt2) pos) (tS X.K gl call XR W fuel ok (.par [i, j] es)) := by
  refine impS (ps_par hc hN hi hj hij hx hy ha hw) fun D σ H q => ?_
  obtain ⟨α, m, g, s⟩ := par_core q
  refine ⟨α, m, g, sat_mono s (fun ds ρ f xs α1 H1 e1 e2 m1 st => ?_) fun _ _ z => z⟩
  obtain ⟨h1, h2⟩ := f xs α1 H1 e1 e2 m1 st
  rw [List.length_map] at h1
  match xs, h1, h2 with
  | [u, v], _, h2 => exact ⟨_, _, rfl, h2⟩
theorem s_parS3 {i j l : Nat} {x y z : Str} {es : Ev.Es} {a b c : Expr} {px py pz pt : Pos} {kt k2 pt2} (hc : X.calm = true) (hN : X.N.Nodup) (hi : X.N[i]? = some x) (hj : X.N[j]? = some y) (hl : X.N[l]? = some z) (hij : i ≠ j) (hil : i ≠ l) (hjl : j ≠ l)
    (hx : X.env.scope.names.lookup x = some .local) (hy : X.env.scope.names.lookup y = some .local) (hz : X.env.scope.names.lookup z = some .local) (ha : PA X [a, b, c] (tEs X.K gl call XR W es))
    (hw : swappedStores [.Tuple [.Name x px, .Name y py, .Name z pz] kt pt] (.Tuple [a, b, c] k2 pt2) X.env = pure (some [x, y, z])) :
    PS X (.Assign [.Tuple [.Name x px, .Name y py, .Name z pz] kt pt] (.Tuple [a, b, c] k2 pt2) pos) (tS X.K gl call XR W fuel ok (.par [i, j, l] es)) := by
  refine impS (ps_par3 hc hN hi hj hl hij hil hjl hx hy hz ha hw) fun D σ H q => ?_
  obtain ⟨α, m, g, s⟩ := par_core q
  refine ⟨α, m, g, sat_mono s (fun ds ρ f xs α1 H1 e1 e2 m1 st => ?_) fun _ _ z => z⟩
  obtain ⟨h1, h2⟩ := f xs α1 H1 e1 e2 m1 st
  rw [List.length_map] at h1
  match xs, h1, h2 with
  | [u, v, w], _, h2 => exact ⟨_, _, _, rfl, h2⟩
end
end Ev
end

section
set_option Elab.async false
set_option linter.all false
set_option maxRecDepth 100000
/-! EvB14: list comprehensions. -/
namespace Ev
open PySem L2
def wipeA (α : List A) : List Nat → List A
  | [] => α
  | v :: vs => (wipeA α vs).set v .no
theorem wipeA_er (α : List A) : ∀ vs : List Nat, erL (wipeA α vs) = Ev.wipe (erL α) vs
  | [] => rfl
  | v :: vs => by rw [wipeA, Ev.wipe, erL_set, wipeA_er α vs]; rfl
theorem wipeA_length (α : List A) : ∀ vs : List Nat, (wipeA α vs).length = α.length
  | [] => rfl
  | v :: vs => by rw [wipeA, List.length_set, wipeA_length α vs]
theorem wipe_len (σ : L2.St) (vs : List Nat) : (L2.wipe σ vs).length = σ.length := wipe_length σ vs
theorem wipeA_mt {σ : L2.St} {α : List A} (m : Mt σ α) : ∀ vs : List Nat, Mt (L2.wipe σ vs) (wipeA α vs)
  | [] => m
  | v :: vs => by
    have ih := wipeA_mt m vs
    refine ⟨by rw [wipe_len, wipeA_length]; exact m.len, fun j x h => ?_⟩
    rw [wipeA] at h
    by_cases e : v = j
    · subst e
      by_cases hl : v < (wipeA α vs).length
      · rw [List.getElem?_set_self hl] at h
        cases h; exact .inl rfl
      · rw [List.getElem?_eq_none (by simpa using hl)] at h; cases h
    · rw [List.getElem?_set_ne e] at h
      rw [L2.wipe, List.getElem?_set_ne e]
      exact ih.at_ j x h
theorem wipeA_good {K : PySem.W.Frag} {H : Hp} {α : List A} (g : Good K H α) : ∀ vs : List Nat, Good K H (wipeA α vs) ∧ ∀ p ∈ footL (wipeA α vs), p ∈ footL α
  | [] => ⟨g, fun _ h => h⟩
  | v :: vs => by
    obtain ⟨g1, s1⟩ := wipeA_good g vs
    by_cases hl : v < (wipeA α vs).length
    · obtain ⟨l, p0, p1⟩ := footL_set (α := wipeA α vs) (i := v) (x := (wipeA α vs)[v]) (by simp [hl])
      have p1' : (footL ((wipeA α vs).set v .no)).Perm l := by simpa [A.foot] using p1 .no
      refine ⟨g1.sub (okL_set g1.ok trivial) ⟨((wipeA α vs)[v]).foot, ?_⟩, fun p mp => s1 p (p0.mem_iff.mpr (List.mem_append_right _ (p1'.mem_iff.mp mp)))⟩
      exact p0.trans (List.perm_append_comm.trans (List.Perm.append_right _ p1'.symm))
    · rw [wipeA, List.set_eq_of_length_le (by omega)]
      exact ⟨g1, s1⟩
/-- names of the block forgotten: the state as it was -/
theorem unwipe_mt {σ : L2.St} {α : List A} {vs : List Nat} (m : Mt (L2.wipe σ vs) α) : Mt σ α := by
  refine ⟨by rw [← wipe_len σ vs]; exact m.len, fun j x h => ?_⟩
  rcases m.at_ j x h with q | q
  · exact .inl q
  · exact .inr (wipe_some q).1
theorem wipe_get {σ : L2.St} {i : Nat} : ∀ {vs : List Nat}, i ∈ vs → i < σ.length → (L2.wipe σ vs)[i]? = some none
  | v :: vs, h, hl => by
    rw [L2.wipe]
    by_cases e : v = i
    · subst e
      rw [List.getElem?_set_self (by rw [wipe_len]; exact hl)]
    · rw [List.getElem?_set_ne e]
      exact wipe_get ((List.mem_cons.mp h).resolve_left (fun z => e z.symm)) hl
theorem wipe_keep {σ σ2 : L2.St} {vs : List Nat} (k : KeepS (fun i => vs.contains i) (L2.wipe σ vs) σ2) : L2.wipe σ2 vs = L2.wipe σ vs := by
  have hl : σ2.length = σ.length := by rw [k.1, wipe_len]
  refine List.ext_getElem? fun i => ?_
  by_cases h : i ∈ vs
  · by_cases hi : i < σ.length
    · rw [wipe_get h hi, wipe_get h (by rw [hl]; exact hi)]
    · rw [List.getElem?_eq_none (by rw [wipe_len]; omega), List.getElem?_eq_none (by rw [wipe_len]; omega)]
  · rw [wipe_out h, k.2 i (by simpa using h)]
theorem compL_step {turn : D → Env → Ev.R (Option D)} {d : D} {ds : List D} {ρ : Env} {P : List D → Env → Prop} {E : Ex → Env → Prop} (h : (compL turn (d :: ds) ρ).sat P E) :
    (turn d ρ).sat (fun o ρ' => (compL turn ds ρ').sat (fun xs ρ'' => P (match o with | some x => x :: xs | none => xs) ρ'') E) fun _ _ => False := by
  rw [compL] at h
  cases ht : turn d ρ with
  | ok o ρ' =>
    rw [ht] at h
    show (compL turn ds ρ').sat _ _
    cases hc : compL turn ds ρ' with
    | ok xs ρ'' => simp only [hc] at h; exact h
    | rz x ρ'' => simp only [hc] at h; exact h.elim
    | st => simp only [hc] at h; exact h.elim
  | rz x ρ' => rw [ht] at h; exact h.elim
  | st => rw [ht] at h; exact h.elim
mutual
theorem stT_len {ok : Nat → Bool} : ∀ (t : Tg) (d : D) (ρ ρ' : Env), stT ok t d ρ = some ρ' → ρ'.length = ρ.length
  | .nm i, d, ρ, ρ', h => by
    simp only [stT] at h
    split at h
    · cases h; rw [List.length_set]
    · cases h
  | .tup ts, d, ρ, ρ', h => by
    simp only [stT] at h
    split at h
    · split at h
      · exact stTs_len ts _ ρ ρ' h
      · cases h
    · cases h
theorem stTs_len {ok : Nat → Bool} : ∀ (ts : Tgs) (ds : List D) (ρ ρ' : Env), stTs ok ts ds ρ = some ρ' → ρ'.length = ρ.length
  | .nil, ds, ρ, ρ', h => by
    simp only [stTs] at h
    split at h
    · cases h; rfl
    · cases h
  | .cons t ts, ds, ρ, ρ', h => by
    simp only [stTs] at h
    split at h
    · obtain ⟨ρ1, e1, e2⟩ := Option.bind_eq_some_iff.mp h
      exact (stTs_len ts _ _ _ e2).trans (stT_len t _ _ _ e1)
    · cases h
end
/-- tests of the clause -/
def tTs (K : PySem.W.Frag) (gl : Nat → Option D) (call : Nat → List D → R D) (XR : XRel) (W : WX) (c : Ev.E) : TT := tT K gl call XR W c
section
variable {X : Cx} {gl : Nat → Option D} {call : Nat → List D → R D} {XR : XRel} {W : WX} {fuel : Nat} {ok : Nat → Bool} {pos : Pos}
theorem comp_core {elt cond : Ev.E} {tg : Tg} {it : Ev.It} {has : Bool} {vs : List Nat} {σ : L2.St} {H : Hp} {Q : VK} {K : PySem.W.Frag}
    (q : tV K gl call XR W (.comp elt tg it cond has vs) σ H Q) :
    tLc (tI K gl call XR W it) (tG K (fun i => vs.contains i) tg) (tT K gl call XR (fun _ _ _ _ => False) cond) (tV K gl call XR (fun _ _ _ _ => False) elt) vs σ H Q := by
  obtain ⟨α, m, g, s⟩ := q
  refine ⟨α, m, g, sat_mono (sat_bind.mp s) (fun q ρ f J xs src α1 H1 e1 wk fr e2 m1 g1 => ?_) fun _ _ z => z⟩
  obtain ⟨ds, fz⟩ := q
  subst e1 e2
  intro Da hD
  have f := sat_bind.mp f
  simp only at f
  revert f
  generalize htn : (fun d ρ' => opt (stT (fun i => vs.contains i) tg d ρ') fun ρ2 => (evM gl call cond .t ρ2).bind fun k ρ3 =>
        if k.isT = true then (evM gl call elt .v ρ3).bind fun x ρ4 => Ev.R.ok (some x) (Ev.wipe ρ4 vs) else .ok none (Ev.wipe ρ3 vs)) = turn
  intro f
  obtain ⟨PF, hPF⟩ : ∃ PF : D → Env → Prop, PF = fun d ρ => ∀ (x : A) (α' : List A) (H' : Hp), x.er = d → erL α' = ρ → Mt σ α' → Stp K (wrL α) α H (x :: α') H' → Q x.val H' := ⟨_, rfl⟩
  obtain ⟨PE, hPE⟩ : ∃ PE : Ex → Env → Prop, PE = EX K XR W σ α H := ⟨_, rfl⟩
  have f : (compL turn (erL xs) (Ev.wipe (erL α1) vs)).sat (fun rest ρ5 => (opt (thaw fz ρ5) fun ρ6 => Ev.R.ok (D.lst rest) ρ6).sat PF PE) PE := by
    rw [hPF, hPE]; exact f
  obtain ⟨gw, sw⟩ := wipeA_good g1 vs
  have mw : Mt (L2.wipe σ vs) (wipeA α1 vs) := wipeA_mt m1 vs
  have st0 : Stp K (wrL α1) α1 H1 (.lst Da [] :: wipeA α1 vs) (upd H1 Da (.lst [])) := by
    refine (stp_same (W := wrL α1) gw sw).new (w := .lst Da []) (.new hD) ?_ (by simp [A.foot, footL]) ?_
    · rw [A.ok]; exact ⟨upd_same, Nat.zero_le _, trivial⟩
    · intro p mp
      have : p = (true, Da) := by simpa [A.foot, footL] using mp
      rw [this]; exact hD
  rw [← wipeA_er] at f
  -- at turn i: acc is in the new list
  obtain ⟨Iv, hIv⟩ : ∃ Iv : Nat → Hp → Prop, Iv = fun i Hk => ∃ αk acc, Mt (L2.wipe σ vs) αk ∧ acc.length ≤ i ∧ Stp K (wrL α1) α1 H1 (.lst Da acc :: αk) Hk ∧
      (compL turn (erL (xs.drop i)) (erL αk)).sat (fun rest ρ5 => (opt (thaw fz ρ5) fun ρ6 => Ev.R.ok (D.lst (erL acc ++ rest)) ρ6).sat PF PE) PE := ⟨_, rfl⟩
  have mkI : ∀ {i : Nat} {Hk : Hp} (αk acc : List A), Mt (L2.wipe σ vs) αk → acc.length ≤ i → Stp K (wrL α1) α1 H1 (.lst Da acc :: αk) Hk →
      (compL turn (erL (xs.drop i)) (erL αk)).sat (fun rest ρ5 => (opt (thaw fz ρ5) fun ρ6 => Ev.R.ok (D.lst (erL acc ++ rest)) ρ6).sat PF PE) PE → Iv i Hk := fun αk acc a b c d => by rw [hIv]; exact ⟨αk, acc, a, b, c, d⟩
  refine ⟨fun i n Hk => n = xs.length - i ∧ i ≤ xs.length ∧ Iv i Hk, ⟨xs.length, by simp, Nat.zero_le _, mkI (wipeA α1 vs) [] mw (Nat.le_refl _) st0 f⟩, ?_⟩
  rintro i n Hk ⟨rfl, hi, iv⟩
  rw [hIv] at iv
  obtain ⟨αk, acc, mk, ha, st, s⟩ := iv
  have won := wk.on g1 st
  have wki := wk.wk i Hk won.1
  by_cases hlt : i < xs.length
  · obtain ⟨hgo, hy⟩ := wki.1 xs[i] (by simp [hlt])
    refine .inr ⟨hgo, Iv (i + 1), fun H' h => ⟨xs.length - (i + 1), by omega, rfl, hlt, h⟩, fun x H' y => ?_⟩
    obtain ⟨rfl, rfl⟩ := hy x H' y
    rw [List.drop_eq_getElem_cons hlt] at s
    have imx : (xs[i]).er.imm = true := by
      have := wk.imm
      rw [immL_iff] at this
      exact this _ (by rw [erL_map]; exact List.mem_map_of_mem (List.getElem_mem hlt))
    have s := compL_step (d := (xs[i]).er) (ds := erL (xs.drop (i + 1))) s
    have eturn : turn (xs[i]).er (erL αk) = opt (stT (fun i => vs.contains i) tg (xs[i]).er (erL αk)) fun ρ2 => (evM gl call cond .t ρ2).bind fun k ρ3 =>
        if k.isT = true then (evM gl call elt .v ρ3).bind fun x ρ4 => Ev.R.ok (some x) (Ev.wipe ρ4 vs) else .ok none (Ev.wipe ρ3 vs) := by rw [← htn]
    rw [eturn] at s
    obtain ⟨ρ', e1, s⟩ := sat_opt.mp s
    have gk : Good K H' αk := st.good.tail
    have gi : Good K H' (xs[i] :: αk) := gk.imm (okL_iff.mp won.2 _ (List.getElem_mem hlt)) imx
    have hlen := stT_len _ _ _ _ e1
    refine ⟨xs[i], αk, ρ', rfl, mk, gi, e1, fun σ2 α2 ee m2 g2 sub kp => ?_⟩
    subst ee
    have ew : L2.wipe σ2 vs = L2.wipe σ vs := wipe_keep kp
    refine ⟨ew, ?_⟩
    -- the tests
    have st1 : Stp K (wrL α1) α1 H1 (.lst Da acc :: α2) H' := by
      refine st.trans (W' := []) (Stp.frame (Δ := [A.lst Da acc]) st.good (stp_same g2 fun p mp => ?_) (by simp)) (by simp)
      have := sub p mp
      rw [footL, imm_foot _ imx] at this
      exact this
    refine ⟨α2, m2, g2, sat_mono (sat_bind.mp s) (fun d ρ f α3 H3 e3 m3 st3 => ?_) fun _ _ z => z.elim⟩
    subst e3
    have st3' : Stp K (wrL α1) α1 H1 (.lst Da acc :: α3) H3 := st1.trans (Stp.frame (Δ := [A.lst Da acc]) st1.good st3 Wof_sub) fun a m => st1.wsub a (by
      have m := mem_wrL.mp (Wof_sub a m)
      exact mem_wrL.mpr (List.mem_append_right (A.lst Da acc).foot m))
    cases hd : d.isT with
    | false =>
      rw [hd, if_neg Bool.false_ne_true] at f
      rw [if_neg Bool.false_ne_true]
      obtain ⟨g4, s4⟩ := wipeA_good st3.good vs
      have m4 := wipeA_mt m3 vs
      rw [ew] at m4
      rw [← wipeA_er] at f
      exact mkI (wipeA α3 vs) acc m4 (by omega) (st3'.trans (W' := []) (Stp.frame (Δ := [A.lst Da acc]) st3'.good (stp_same g4 s4) (by simp)) (by simp)) f
    | true =>
      rw [hd, if_pos rfl] at f
      rw [if_pos rfl]
      refine ⟨α3, m3, st3.good, sat_mono (sat_bind.mp f) (fun d2 ρ f y α4 H4 e4 e5 m4 st4 => ?_) fun _ _ z => z.elim⟩
      subst e4 e5
      have st4' : Stp K (wrL α1) α1 H1 (.lst Da acc :: (y :: α4)) H4 := st3'.trans (Stp.frame (Δ := [A.lst Da acc]) st3'.good st4 Wof_sub) fun a m => st3'.wsub a (by
        have m := mem_wrL.mp (Wof_sub a m)
        exact mem_wrL.mpr (List.mem_append_right (A.lst Da acc).foot m))
      have oD := st4'.good.ok.1
      rw [A.ok] at oD
      have hacc : acc.length < line := by have := wk.len; omega
      refine ⟨_, oD.1, by rw [List.length_map, ← line_eq]; exact hacc, ?_⟩
      -- the new item
      obtain ⟨g5, s5⟩ := wipeA_good (st4.good.tail) vs
      have m5 := wipeA_mt m4 vs
      rw [ew] at m5
      rw [← wipeA_er] at f
      have gA : Good K H4 ([y] ++ (.lst Da acc :: α4)) := by
        refine st4'.good.perm ⟨st4'.good.ok.2.1, oD, st4'.good.ok.2.2⟩ ?_
        show ((A.lst Da acc).foot ++ (y.foot ++ footL α4)).Perm (y.foot ++ ((A.lst Da acc).foot ++ footL α4))
        rw [← List.append_assoc, ← List.append_assoc]
        exact List.Perm.append_right _ List.perm_append_comm
      have wko := (write_ok (Δ := []) (root := .lst Da acc) (ss := []) (i := 0) (ys' := acc ++ [y]) gA rfl rfl (by rw [List.length_append]; exact hacc) (okL_append.mpr ⟨trivial, okL_append.mpr ⟨oD.2.2, ⟨st4'.good.ok.2.1, trivial⟩⟩⟩) ⟨[], by
        rw [List.append_nil, List.nil_append, footL_append, footL_append]
        exact List.perm_append_comm⟩).1
      have em : acc.map A.val ++ [y.val] = (acc ++ [y]).map A.val := by rw [List.map_append]; rfl
      rw [em]
      have wko' : Stp K (wrL (.lst Da acc :: α4)) (y :: .lst Da acc :: α4) H4 (.lst Da (acc ++ [y]) :: α4) (upd H4 Da (.lst ((acc ++ [y]).map A.val))) := wko
      have st5 : Stp K (wrL α1) α1 H1 (y :: .lst Da acc :: α4) H4 := st4'.trans (W' := []) (stp_same gA fun p mp => by
        have mp : p ∈ y.foot ++ ((A.lst Da acc).foot ++ footL α4) := mp
        show p ∈ (A.lst Da acc).foot ++ (y.foot ++ footL α4)
        simp only [List.mem_append] at mp ⊢
        rcases mp with z | z | z
        · exact .inr (.inl z)
        · exact .inl z
        · exact .inr (.inr z)) (by simp)
      have st6 := st5.trans wko' fun a m => st5.wsub a (mem_wrL.mpr (List.mem_append_right y.foot (mem_wrL.mp m)))
      obtain ⟨g7, s7⟩ := wipeA_good (st6.good.tail) vs
      refine mkI (wipeA α4 vs) (acc ++ [y]) m5 (by rw [List.length_append]; simpa using ha) (st6.trans (W' := []) (Stp.frame (Δ := [A.lst Da (acc ++ [y])]) st6.good (stp_same g7 s7) (by simp)) (by simp)) ?_
      refine sat_mono f (fun rest ρ5 z => ?_) fun _ _ z => z
      have ea : erL (acc ++ [y]) ++ rest = erL acc ++ (y.er :: rest) := by rw [erL_append]; simp [erL]
      rw [ea]
      exact z
  · have e : i = xs.length := by omega
    subst e
    rw [List.drop_length] at s
    refine .inl ⟨wki.2 (Nat.le_refl _), ?_⟩
    have s : (opt (thaw fz (erL αk)) fun ρ6 => Ev.R.ok (D.lst (erL acc ++ [])) ρ6).sat PF PE := s
    obtain ⟨ρ6, e6, s⟩ := sat_opt.mp s
    obtain ⟨α', a1, a2, a3⟩ := thaw_ok (Δ := [A.lst Da acc]) fr g1 m1 st (unwipe_mt mk) (fun _ _ => rfl) e6
    rw [hPF] at s
    exact s (.lst Da acc) α' Hk (by rw [List.append_nil]; rfl) a1 a2 a3
/-- contexts of a comprehension's block -/
def BlkSE (X : Cx) (gl : Nat → Option D) (call : Nat → List D → R D) (XR : XRel) (scope : Scope) (P : Cx → Prop) : Prop := ∀ (s : Shared) (H : Hp) (C : Addr) (cl : List (Str × Addr)) (fp : List Addr), P (X.blk s H scope (compEnvC scope cl C X.env) fp)
theorem pts_of {X : Cx} {c : Ev.E} {ifs : List Expr} {has : Bool} (h : (has = false ∧ ifs = [] ∧ c = .bl true) ∨ (has = true ∧ ∃ ce, ifs = [ce] ∧ PT X ce (tT X.K gl call XR W c))) : PTs X ifs (tT X.K gl call XR W c) := by
  rcases h with ⟨_, rfl, rfl⟩ | ⟨_, ce, rfl, h⟩
  · refine ⟨fun pins s σ H Q I q => pts_nil.run pins s σ H Q I ?_⟩
    obtain ⟨α, m, g, s⟩ := q
    exact s α H rfl m (Stp.refl g)
  · exact pts_one h
theorem s_comp {elt cond : Ev.E} {tg : Tg} {it : Ev.It} {has : Bool} {vs : List Nat} {ee te ie : Expr} {ifs : List Expr} {scope : Scope} {own : List (Str × Nat)} (hc : X.calm = true) (hN : X.N.Nodup) (hvs : vs = own.map (·.2))
    (hi : PI X te ie (tI X.K gl call XR W it)) (bk : BlkOk X.N X.env.scope scope own) (hg : BlkSE X gl call XR scope fun Y => PG Y te (tG X.K (fun i => vs.contains i) tg))
    (ht : BlkSE X gl call XR scope fun Y => PTs Y ifs (tT X.K gl call XR (fun _ _ _ _ => False) cond)) (he : BlkSE X gl call XR scope fun Y => PE Y ee (tV X.K gl call XR (fun _ _ _ _ => False) elt)) (hs : notSet ie = true) :
    SE X gl call XR W (.comp elt tg it cond has vs) (.ListComp ee [⟨te, ie, ifs, 0⟩] scope pos) := by
  refine SE.temp (impE (pe_lc hc hN hi bk hg ht he (noSet hs)) fun σ H Q q => ?_) rfl (fun _ => rfl) (fun _ => rfl) fun _ _ => rfl
  rw [← hvs]
  exact comp_core q
theorem s_setLc {elt cond : Ev.E} {tg : Tg} {it : Ev.It} {has : Bool} {vs : List Nat} {ee te ie : Expr} {ifs : List Expr} {scope : Scope} {own : List (Str × Nat)} {i : Nat} {y : Str} {py spos : Pos} (hc : X.calm = true) (hN : X.N.Nodup) (hvs : vs = own.map (·.2))
    (hy : X.N[i]? = some y) (hyl : X.env.scope.names.lookup y = some .local) (hsw : swapsWith (.ListComp ee [⟨te, ie, ifs, 0⟩] scope pos) (some (.Name y py)) spos.line X.env = pure true)
    (hi : PI X te ie (tI X.K gl call XR W it)) (bk : BlkOk X.N X.env.scope scope own) (hg : BlkSE X gl call XR scope fun Y => PG Y te (tG X.K (fun i => vs.contains i) tg))
    (ht : BlkSE X gl call XR scope fun Y => PTs Y ifs (tT X.K gl call XR (fun _ _ _ _ => False) cond)) (he : BlkSE X gl call XR scope fun Y => PE Y ee (tV X.K gl call XR (fun _ _ _ _ => False) elt)) (hs : notSet ie = true) :
    PS X (.Assign [.Name y py] (.ListComp ee [⟨te, ie, ifs, 0⟩] scope pos) spos) (tS X.K gl call XR W fuel ok (.set (.nm i) (.comp elt tg it cond has vs))) := by
  refine impS (ps_setLc hc hN hy hyl hsw hi bk hg ht he (noSet hs)) fun D σ H q => ?_
  obtain ⟨α, m, g, s⟩ := q
  rw [← hvs]
  refine comp_core ⟨α, m, g, sat_mono (osat_o s) (fun d ρ f x α1 H1 e1 e2 m1 st => ?_) fun _ _ z => z⟩
  subst e1 e2
  obtain ⟨ρ', e3, f⟩ := osat_opt f
  simp only [stT] at e3
  split at e3
  · rename_i c
    cases e3
    rw [erL_length] at c
    have gs := st.good.store c.1
    refine f _ (α1.set i x) H1 (by rw [erL_set]) ⟨m1.store, ⟨by rw [List.length_set], fun j hj => ?_⟩, st.asF.trans (W' := []) (stp_same gs.1 gs.2) (by simp)⟩
    have : i ≠ j := fun e => by subst e; rw [c.2] at hj; cases hj
    exact List.getElem?_set_ne this
  · cases e3
end
end Ev
end

section
set_option Elab.async false
set_option linter.all false
set_option maxRecDepth 100000
/-! EvB15: calls by keywords; x[f(..)] = v. -/
namespace Ev
open PySem L2
section
variable {X : Cx} {gl : Nat → Option D} {call : Nat → List D → R D} {XR : XRel} {W : WX} {fuel : Nat} {ok : Nat → Bool} {pos : Pos}
theorem impK {ks : List Keyword} {t t' : TA} (h : PK X ks t) (f : ∀ σ H Q, t' σ H Q → t σ H Q) : PK X ks t' := ⟨fun pos pins s σ H Q I q => h.run pos pins s σ H Q I (f σ H Q q)⟩
theorem s_nilK : PK X [] (tAs X.K gl call XR W .nil) := impK pk_nil fun σ H Q q => by
  obtain ⟨α, m, g, s⟩ := q
  exact s [] [] α H rfl rfl m .nil (Stp.refl g)
theorem s_consK {e : Ev.E} {es : Ev.Es} {ex : Expr} {nm : Option Str} {kp : Pos} {kws : List Keyword} (hl : e.lent? = none) (he : SE X gl call XR W e ex) (hes : PK X kws (tAs X.K gl call XR W es)) : PK X (⟨nm, ex, kp⟩ :: kws) (tAs X.K gl call XR W (.cons e es)) := by
  refine impK (pk_cons he.v hes) fun σ H Q q => ?_
  obtain ⟨α, m, g, s⟩ := q
  have eqA : evAs gl call (.cons e es) (erL α) = (evM gl call e .v (erL α)).bind fun d ρ1 => (evAs gl call es ρ1).bind fun ds ρ2 => Ev.R.ok ((none, d) :: ds) ρ2 := by
    show (match e.lent? with | some i => _ | none => _) = _
    rw [hl]
  rw [eqA] at s
  refine oneV m g s (fun _ _ z => z) fun x α1 H1 m1 st1 s1 => ?_
  have st1' : Stp X.K (Wof e.quiet α) α H α1 H1 := Stp.right (Δ := [x]) st1
  refine ⟨α1, m1, st1'.good, sat_mono (sat_bind.mp s1) (fun as ρ f bs vs α2 H2 e1 e2 m2 vb st2 => ?_) fun _ _ z => EX.on st1' z⟩
  subst e1 e2
  refine f ((none, x) :: bs) (x.val :: vs) α2 H2 rfl rfl m2 (.val vb) ?_
  exact (st1.mono Wof_sub).trans (Stp.frame (Δ := [x]) st1.good st2 fun _ q => q) fun a q => st1'.wsub a q
theorem s_lentK {i : Nat} {es : Ev.Es} {x : Str} {p : Pos} {nm : Option Str} {kp : Pos} {kws : List Keyword} (hN : X.N[i]? = some x) (hv : Vis X.env.scope x) (hd : (x == ("__debug__" : Str)) = false) (hcd : (x == ("__classdict__" : Str)) = false) (hes : PK X kws (tAs X.K gl call XR W es)) :
    PK X (⟨nm, .Name x p, kp⟩ :: kws) (tAs X.K gl call XR W (.cons (.lend i) es)) := by
  refine impK (pk_cons (pe_var hN hv hd hcd) hes) fun σ H Q q => ?_
  obtain ⟨α, m, g, s⟩ := q
  obtain ⟨d, ed, s⟩ := sat_opt.mp s
  obtain ⟨y, y1, y2, y3⟩ := rd_at m ed
  refine ⟨_, y3, α, m, g, sat_mono (sat_bind.mp s) (fun as ρ f bs vs α2 H2 e1 e2 m2 vb st2 => ?_) fun _ _ z => z⟩
  subst e1 e2
  exact f ((some i, .no) :: bs) (y.val :: vs) α2 H2 rfl rfl m2 (.lent y3 vb) st2
/-! ### keywords in the parameters' order -/
def pick {α : Type} (l : List α) (js : List Nat) : List α := js.filterMap fun j => l[j]?
theorem reord_pick {α : Type} (is : List Nat) (l : List α) : reord 0 is l = pick l ((List.range l.length).map is.idxOf) := by
  unfold reord pick
  rw [List.filterMap_map]
  congr 1
  funext p
  simp
theorem pick_all {α : Type} (l : List α) : pick l (List.range l.length) = l := by
  unfold pick
  induction l with
  | nil => rfl
  | cons x l ih =>
    rw [List.length_cons, List.range_succ_eq_map, List.filterMap_cons]
    simp only [List.getElem?_cons_zero, List.filterMap_map]
    exact congrArg (x :: ·) ih
theorem pick_perm {α : Type} {l : List α} {js : List Nat} (h : js.Perm (List.range l.length)) : (pick l js).Perm l := by
  have := h.filterMap fun j => l[j]?
  have e := pick_all l
  unfold pick at e ⊢
  rwa [e] at this
theorem pick_map {α β : Type} (f : α → β) (l : List α) (js : List Nat) : pick (l.map f) js = (pick l js).map f := by
  unfold pick
  rw [List.map_filterMap]
  congr 1
  funext j
  rw [List.getElem?_map]
theorem VB.len {σ : L2.St} : ∀ {bs : List B} {vs : List V}, VB σ bs vs → bs.length = vs.length
  | _, _, .nil => rfl
  | _, _, .val h => by rw [List.length_cons, List.length_cons, h.len]
  | _, _, .lent _ h => by rw [List.length_cons, List.length_cons, h.len]
theorem VB.get {σ : L2.St} {bs : List B} {vs : List V} (h : VB σ bs vs) : ∀ (j : Nat), (bs[j]? = none ∧ vs[j]? = none) ∨ ∃ (b : B) (v : V), bs[j]? = some b ∧ vs[j]? = some v ∧ VB σ [b] [v] := by
  induction h with
  | nil => intro j; exact .inl ⟨by simp, by simp⟩
  | val h ih =>
    intro j
    cases j with
    | zero => exact .inr ⟨_, _, rfl, rfl, .val .nil⟩
    | succ j => simpa using ih j
  | lent e h ih =>
    intro j
    cases j with
    | zero => exact .inr ⟨_, _, rfl, rfl, .lent e .nil⟩
    | succ j => simpa using ih j
theorem VB.one {σ : L2.St} {b : B} {v : V} {bs : List B} {vs : List V} (h : VB σ [b] [v]) (r : VB σ bs vs) : VB σ (b :: bs) (v :: vs) := by
  cases h with
  | val _ => exact .val r
  | lent e _ => exact .lent e r
theorem VB.pick {σ : L2.St} {bs : List B} {vs : List V} (h : VB σ bs vs) : ∀ js, VB σ (pick bs js) (pick vs js)
  | [] => .nil
  | j :: js => by
    have ih := VB.pick h js
    unfold Ev.pick at ih ⊢
    rcases h.get j with ⟨a, b⟩ | ⟨b, v, e1, e2, r⟩
    · rw [List.filterMap_cons, List.filterMap_cons, a, b]; exact ih
    · rw [List.filterMap_cons, List.filterMap_cons, e1, e2]; exact r.one ih
theorem ownB_perm {bs bs' : List B} (h : bs.Perm bs') : (ownB bs).Perm (ownB bs') := by
  have e : ∀ bs, ownB bs = bs.filterMap fun b => match b with | (none, x) => some x | (some _, _) => none := by
    intro bs
    induction bs with
    | nil => rfl
    | cons b bs ih =>
      obtain ⟨o, x⟩ := b
      cases o with
      | none => rw [ownB, ih]; rfl
      | some i => rw [ownB, ih]; rfl
  rw [e, e]
  exact h.filterMap _
theorem footL_perm {xs ys : List A} (h : xs.Perm ys) : (footL xs).Perm (footL ys) := by
  have e : ∀ xs : List A, footL xs = xs.flatMap A.foot := by
    intro xs
    induction xs with
    | nil => rfl
    | cons x xs ih => rw [footL, ih]; rfl
  rw [e, e]
  exact h.flatMap_right _
theorem okL_perm {K : PySem.W.Frag} {H : Hp} {xs ys : List A} (h : xs.Perm ys) (o : okL K H xs) : okL K H ys := okL_iff.mpr fun y m => okL_iff.mp o y (h.mem_iff.mpr m)
/-- a def called by keywords alone -/
structure FnK (X : Cx) (XR : XRel) (call : Nat → List D → R D) (f : Nat) (x : Str) (ks : List Str) (is : List Nat) : Prop where
  ex : ∃ (k : Nat) (a : Addr) (fd : FuncData) (ps : List Str), X.mg x = some (.ref a) ∧ PySem.W.keepIn X.K (.ref a) = true ∧ (∀ (s : Shared) (ws : List Value), X.K.In s.heap → ws.length = ks.length → BindsTo s fd ⟨[], ks.zip ws⟩ (ps.zip (reord 0 is ws))) ∧
    FnOk X.prog X.w X.K X.mg X.base (L2.CX X.prog X.w) k a fd ps (spC X.K XR call f) ∧ Room k X.A
theorem vals_pick {vs : List V} {us : List Value} (h : Vals vs us) : ∀ js, Vals (pick vs js) (pick us js)
  | [] => .nil
  | j :: js => by
    have ih := vals_pick h js
    unfold pick at ih ⊢
    rw [List.filterMap_cons, List.filterMap_cons]
    cases e : vs[j]? with
    | none =>
      have : us[j]? = none := by
        rw [List.getElem?_eq_none_iff] at e ⊢
        rw [← h.length]; exact e
      rw [this]
      exact ih
    | some v =>
      obtain ⟨u, hu, r⟩ := h.get e
      rw [hu]
      exact .cons r ih
theorem pe_callK0 {CX : CXT} {k : Nat} {f : Addr} {fd : FuncData} {ps ks : List Str} {is : List Nat} {sp : Sp} {E : L2.St → XK} {x : Str} {p pos : Pos} {kws : List Keyword} {tk : TA} (F : FnOk X.prog X.w X.K X.mg X.base CX k f fd ps sp) (hr : Room k X.A) (hg : Gl X x) (hm : X.mg x = some (.ref f)) (hk : PySem.W.keepIn X.K (.ref f) = true)
    (hb : ∀ (s : Shared) (ws : List Value), X.K.In s.heap → ws.length = ks.length → BindsTo s fd ⟨[], ks.zip ws⟩ (ps.zip (reord 0 is ws))) (hx : ∀ σ, PassesAt CX X σ (E σ)) (hkw : PK X kws tk)
    (hks : ∀ pos, (backToKw pos (keywordEach kws X.env)).map (·.1) = ks.map some) (hdb : (x == ("__debug__" : Str)) = false) : PE X (.Call (.Name x p) [] kws pos) (fun σ H Q => tk σ H fun zs H1 => zs.length = ks.length ∧ sp (reord 0 is zs) H1 Q (E σ)) := by
  refine ⟨fun pins s σ H Q I h => ?_⟩
  refine wpAny_Call_Name_kw (ld_glob I hg hm ?_ hdb)
  have h1 : (backToKw pos (keywordEach kws X.env)).all (·.1.isSome) = true := by
    have := congrArg (fun l => l.all Option.isSome) (hks pos)
    simp only [List.all_map] at this
    rw [show ((backToKw pos (keywordEach kws X.env)).all fun x => x.1.isSome) = ((backToKw pos (keywordEach kws X.env)).all (Option.isSome ∘ fun x => x.1)) from rfl, this]
    simp
  have h2 : (backToKw pos (keywordEach kws X.env)).filterMap (·.1) = ks := by
    have := congrArg (fun l => l.filterMap id) (hks pos)
    simp only [List.filterMap_map] at this
    rw [show ((backToKw pos (keywordEach kws X.env)).filterMap fun x => x.1) = ((backToKw pos (keywordEach kws X.env)).filterMap (id ∘ fun x => x.1)) from rfl, this]
    simp
  have h3 : (backToKw pos (keywordEach kws X.env)).any (·.1.isNone) = false := by
    rw [List.any_eq_false]
    intro x hx
    have := List.all_eq_true.mp h1 x hx
    cases hx1 : x.1 with
    | none => rw [hx1] at this; cases this
    | some y => simp
  refine PySem.W.callWith_KW0 (h₀ := X.base) I.ok.mod.kin hk h1 (thn (hkw.run pos pins s σ H _ I h) fun ws s2 ⟨zs, H2, I2, rz, el, q2⟩ => ⟨I2.kIn, ?_⟩) (by show (false || _) = false; rw [Bool.false_or]; exact h3)
  rw [h2]
  have r2 : Vals (reord 0 is zs) (reord 0 is ws) := by
    rw [reord_pick, reord_pick, ← rz.length]
    exact vals_pick rz _
  refine wpAny_call (codeAny_mono (F.run X.A X.stack s2 H2 ⟨[], ks.zip ws⟩ (reord 0 is ws) (reord 0 is zs) Q (E σ) hr I2.env0 (hb s2 ws I2.kIn (by rw [← rz.length]; exact el)) r2 q2) fun r s' hq => ?_)
  cases r with
  | error e => exact hx σ pins H2 s2 e s' I2 hq
  | ok fl =>
    cases fl with
    | ret u => exact I2.after hq
    | next => exact False.elim hq
    | brk => exact False.elim hq
    | cont => exact False.elim hq
def Es.len : Ev.Es → Nat
  | .nil => 0
  | .cons _ es => es.len + 1
theorem evAs_len : ∀ (es : Ev.Es) (ρ ρ' : Env) (as : List (Option Nat × D)), evAs gl call es ρ = .ok as ρ' → as.length = es.len
  | .nil, ρ, ρ', as, h => by cases h; rfl
  | .cons e es, ρ, ρ', as, h => by
    unfold evAs at h
    split at h
    · rename_i i _
      cases h1 : rd ρ i with
      | none => rw [h1] at h; cases h
      | some d =>
        rw [h1] at h
        cases h2 : evAs gl call es ρ with
        | ok ds ρ2 =>
          simp only [opt, h2, R.bind] at h
          cases h
          rw [List.length_cons, evAs_len es _ _ _ h2, Es.len]
        | rz x ρ2 => simp only [opt, h2, R.bind] at h; cases h
        | st => simp only [opt, h2, R.bind] at h; cases h
    · cases h1 : evM gl call e .v ρ with
      | ok d ρ1 =>
        simp only [h1, R.bind] at h
        cases h2 : evAs gl call es ρ1 with
        | ok ds ρ2 =>
          simp only [h2] at h
          cases h
          rw [List.length_cons, evAs_len es _ _ _ h2, Es.len]
        | rz x ρ2 => simp only [h2] at h; cases h
        | st => simp only [h2] at h; cases h
      | rz x ρ1 => simp only [h1, R.bind] at h; cases h
      | st => simp only [h1, R.bind] at h; cases h
theorem sat_len {es : Ev.Es} {ρ : Env} {P : List (Option Nat × D) → Env → Prop} {E : Ex → Env → Prop} (h : (evAs gl call es ρ).sat P E) : (evAs gl call es ρ).sat (fun as ρ => as.length = es.len ∧ P as ρ) E := by
  cases e : evAs gl call es ρ with
  | ok as ρ' => rw [e] at h; exact ⟨evAs_len es ρ ρ' as e, h⟩
  | rz x ρ' => rw [e] at h; exact h
  | st => rw [e] at h; exact h
theorem s_callk {f : Nat} {is : List Nat} {es : Ev.Es} {kws : List Keyword} {ks : List Str} {x : Str} {p : Pos} (tk : Takes X W) (F : FnK X XR call f x ks is) (h : PK X kws (tAs X.K gl call XR W es)) (hks : kws.map (·.arg) = ks.map some) (hlen : es.len = ks.length) (hpm : ((List.range ks.length).map is.idxOf).isPerm (List.range ks.length) = true) (hg : Gl X x) (hd : (x == ("__debug__" : Str)) = false) :
    SE X gl call XR W (.callk f 0 is es) (.Call (.Name x p) [] kws pos) := by
  obtain ⟨k, a, fd, ps, hm, hk, hb, FO, hr⟩ := F.ex
  have hks' : ∀ pos, (backToKw pos (keywordEach kws X.env)).map (·.1) = ks.map some := by
    intro pos
    rw [← hks]
    clear h hks
    induction kws with
    | nil => rfl
    | cons kw kws ih => obtain ⟨nm, e, kp⟩ := kw; exact congrArg (List.cons nm) ih
  refine SE.temp (impE (pe_callK0 FO hr hg hm hk hb (passAt tk) h hks' hd) fun σ H Q q => ?_) rfl (fun _ => rfl) (fun _ => rfl) fun _ _ => rfl
  obtain ⟨α, m, g, s⟩ := q
  refine ⟨α, m, g, sat_mono (sat_len (sat_bind.mp s)) (fun as ρ ff bs vs α1 H1 e1 e2 m1 vb st1 => ?_) fun _ _ z => z⟩
  obtain ⟨hl0, f⟩ := ff
  subst e1 e2
  have hl : vs.length = ks.length := by rw [← vb.len, ← hlen, ← hl0, List.length_map]
  refine ⟨hl, ?_⟩
  have hp : ((List.range bs.length).map is.idxOf).Perm (List.range bs.length) := by
    rw [vb.len, hl]
    exact List.isPerm_iff.mp hpm
  have hpb := pick_perm (l := bs) hp
  have er : reord 0 is (bs.map erB) = (pick bs ((List.range bs.length).map is.idxOf)).map erB := by
    rw [reord_pick, List.length_map, pick_map]
  have ev : reord 0 is vs = pick vs ((List.range bs.length).map is.idxOf) := by rw [reord_pick, vb.len]
  rw [er] at f
  rw [ev]
  have po := ownB_perm hpb
  have st2 : Stp X.K (wrL α) α H (ownB (pick bs ((List.range bs.length).map is.idxOf)) ++ α1) H1 := by
    refine st1.sub (okL_append.mpr ⟨okL_perm po.symm (okL_append.mp st1.good.ok).1, (okL_append.mp st1.good.ok).2⟩) ⟨[], ?_⟩
    rw [List.append_nil, footL_append, footL_append]
    exact List.Perm.append_right _ (footL_perm po).symm
  exact call_core m1 (vb.pick _) st2 f
/-- x[i] = value, the index may call -/
theorem s_putrS {e i : Ev.E} {x : Nat} {ex ei : Expr} {nm : Str} {p2 p3 : Pos} (hN : X.N[x]? = some nm) (hv : Vis X.env.scope nm) (hd : (nm == ("__debug__" : Str)) = false) (hcd : (nm == ("__classdict__" : Str)) = false) (he : SE X gl call XR W e ex) (hi : SE X gl call XR W i ei) (hpl : plainE ei = true) (hn : noComp ex = true) :
    PS X (.Assign [.Subscript (.Name nm p3) ei p2] ex pos) (tS X.K gl call XR W fuel ok (.putr x i e)) := by
  refine impS (ps_asg he.v (pg_sub (pe_var hN hv hd hcd) hi.v set_list (fun v => by cases ei <;> first | rfl | (simp [plainE] at hpl))) (swS_false hn) rfl) fun D σ H q => ?_
  obtain ⟨α, m, g, s⟩ := q
  refine ⟨α, m, g, sat_mono (osat_o s) (fun d ρ f x0 α1 H1 e1 e2 m1 st => ?_) fun _ _ z => z⟩
  subst e1 e2
  have st1 : Stp X.K (wrL α) α H α1 H1 := Stp.right (Δ := [x0]) st.asF
  -- the container
  obtain ⟨d0, e0, f1⟩ := osat_opt f
  obtain ⟨r, r1, rfl, r3⟩ := rd_er e0
  have v1 := (m1.at_ _ _ r1).resolve_left r3
  refine ⟨r.val, v1, α1, m1, st.good.tail, sat_mono (osat_o' ⟨m1, .refl, st1⟩ f1) (fun k ρ f2 xk α2 H2 e1 e2 m2 st2 => ?_) fun _ _ z => z⟩
  subst e1 e2
  obtain ⟨ik, f3⟩ := osat_if f2
  obtain ⟨d, e3, f4⟩ := osat_opt f3
  obtain ⟨d', e4, f5⟩ := osat_opt f4
  obtain ⟨r2, r21, rfl, r23⟩ := rd_er e3
  have v2 := (m2.at_ _ _ r21).resolve_left r23
  have st2' : Stp X.K (wrL α1) α1 H1 α2 H2 := Stp.right (Δ := [xk]) st2.asF
  have st3 : Stp X.K (wrL α1) (x0 :: α1) H1 ([x0] ++ α2) H2 := Stp.frame (Δ := [x0]) st.good st2' fun _ q => q
  simp only [Ev.D.putAt, List.getLast?_singleton, List.dropLast_singleton, Ev.D.upd] at e4
  split at e4
  · rename_i ds j0 e5 e6
    obtain ⟨a, ys, rfl, rfl⟩ := er_lst' e5
    obtain ⟨j, ej, rfl⟩ := Option.map_eq_some_iff.mp e4
    rw [erL_length] at ej
    have hj : j < ys.length := by
      unfold Ev.ixN at ej
      split at ej
      · split at ej <;> simp at ej; omega
      · split at ej <;> simp at ej; omega
    have oy := okL_iff.mp (okL_append.mp st3.good.ok).2 _ (List.mem_of_getElem? r21)
    rw [A.ok] at oy
    obtain ⟨l, p0, p1⟩ := footL_set (α := ys) (i := j) (x := ys[j]) (by simp [hj])
    have wk := write_ok (Δ := []) (ys' := ys.set j x0) (ss := []) st3.good r21 rfl (by rw [List.length_set]; exact oy.2.1) (by rw [List.nil_append]; exact okL_set oy.2.2 st3.good.ok.1) ⟨(ys[j]).foot, by
      show (x0.foot ++ footL ys).Perm (footL (ys.set j x0) ++ (ys[j]).foot)
      refine (List.Perm.append_left _ p0).trans ?_
      refine List.Perm.trans ?_ (List.Perm.append_right _ (p1 x0)).symm
      rw [List.append_assoc]
      exact List.Perm.append_left _ List.perm_append_comm⟩
    have hv : r.val = .ref a := by
      rw [v1] at v2
      simpa [A.val] using v2
    rw [hv, er_int e6]
    refine ⟨a, _, j0, j, rfl, rfl, oy.1, by rw [List.length_map, ← ixN_eq]; exact ej, ?_⟩
    have em : (ys.map A.val).set j x0.val = (ys.set j x0).map A.val := by rw [List.map_set]
    rw [em]
    refine f5 σ (α2.set x (.lst a (ys.set j x0))) _ (by rw [erL_set]; simp only [A.er, erL_set]) ⟨m2.same r21 r23 wk.2, .refl, ?_⟩
    have s01 : Stp X.K (wrL α) α H ([x0] ++ α2) H2 := st.asF.trans st3 fun b hb => st1.wsub b hb
    exact s01.trans wk.1 fun b hb => s01.wsub b (mem_wrL.mpr (by rw [footL_append]; exact List.mem_append_right _ (mem_wrL.mp hb)))
  · cases e4
end
end Ev
end

section
set_option Elab.async false
set_option linter.all false
set_option maxRecDepth 100000
/-! EvC1: the compact code beside the program's form: a check by computing. -/
namespace Ev
open PySem L2
/-- what a block is checked in -/
structure Cc where
  N : List Str
  names : List (Str × NameKind)
  kind : ScopeKind
  /-- the names as the block itself says them -/
  raw : List (Str × NameKind)
  fns : List Str
  gls : List Str
  /-- names that the module has not -/
  tops : List Str
  /-- calls by keywords: the def, the keywords' names, the parameters' places -/
  kbs : List (Nat × List Str × List Nat)
def Cc.lk (c : Cc) (x : Str) : Option NameKind := c.names.lookup x
def NK.isLoc : Option NameKind → Bool
  | some .local => true
  | _ => false
def NK.isCell : Option NameKind → Bool
  | some .cell => true
  | _ => false
def NK.isFree : Option NameKind → Bool
  | some .free => true
  | _ => false
def NK.isGl : Option NameKind → Bool
  | some .globalImplicit => true
  | _ => false
def plainN (x : Str) : Bool := !(x == ("__debug__" : Str)) && !(x == ("__classdict__" : Str))
def Cc.at (c : Cc) (i : Nat) (x : Str) : Bool := match c.N[i]? with
  | some y => decide (y = x)
  | none => false
def Cc.vis (c : Cc) (i : Nat) (x : Str) : Bool := c.at i x && (NK.isLoc (c.lk x) || NK.isCell (c.lk x) || NK.isFree (c.lk x)) && plainN x
def Cc.loc (c : Cc) (i : Nat) (x : Str) : Bool := c.at i x && (NK.isLoc (c.lk x) || (NK.isCell (c.lk x) && NK.isCell (c.raw.lookup x)))
def Cc.gl (c : Cc) (x : Str) : Bool := NK.isGl (c.lk x) && plainN x
def Cc.blt (c : Cc) (x : Str) : Bool := c.gl x && (c.tops.any fun y => decide (y = x)) && !decide (x = "__name__")
/-- the names of a comprehension's block beside those around -/
def relN (names : List (Str × NameKind)) (c : Cc) : List (Str × NameKind) :=
  names.map fun (n, k) => if (k == .free && c.kind == .function && c.names.lookup n == some .cell) then (n, .cell) else (n, k)
def Cc.blk (c : Cc) (sc : Scope) : Cc := { c with names := relN sc.names c, kind := sc.kind, raw := sc.names }
def ownOf (c : Cc) (vs : List Nat) : List (Str × Nat) := vs.map fun i => (c.N.getD i Str.empty, i)
def Cc.blkOk (c : Cc) (sc : Scope) (own : List (Str × Nat)) : Bool :=
  (match sc.kind with | .function => true | _ => false) && (sc.names.all fun y => decide (sc.names.lookup y.1 = some y.2)) && (own.all fun p => decide (c.N[p.2]? = some p.1)) &&
    (sc.names.all fun y => match y.2 with
      | .free => (match c.names.lookup y.1 with | some .cell => true | some .free => true | _ => false)
      | .local => decide (y.1 ∈ own.map (·.1)) || decide (y.1 ∉ c.N)
      | .cell => decide (y.1 ∈ own.map (·.1)) || decide (y.1 ∉ c.N)
      | _ => true)
def Blt.known : Blt → Bool
  | .sset | .lset => false
  | _ => true
def Ty.known : Ty → Bool := fun _ => true
def E.isBool : E → Bool
  | .and _ _ => true
  | .or _ _ => true
  | _ => false
def E.isPart : E → Bool
  | .part => true
  | _ => false
def isEmp {α : Type} : List α → Bool
  | [] => true
  | _ => false
def chkTy (c : Cc) : List Ty → List Expr → Bool
  | [], exs => match exs with
    | [] => true
    | _ => false
  | t :: ts, exs => match exs with
    | .Name y _ :: exs => decide (y = Str.ofString t.nm) && c.blt y && chkTy c ts exs
    | _ => false
def Es.isNil : Es → Bool
  | .nil => true
  | _ => false
mutual
def chkE (c : Cc) : E → Expr → Bool
  | .var i, ex => match ex with
    | .Name x _ => c.vis i x
    | _ => false
  | .mov i, ex => match ex with
    | .Name x _ => c.vis i x
    | _ => false
  | .lend _, _ => false
  | .part, _ => false
  | .non, ex => match ex with
    | .Constant .none _ _ => true
    | _ => false
  | .bl b, ex => match ex with
    | .Constant (.bool k) _ _ => b == k
    | _ => false
  | .int i, ex => match ex with
    | .Constant (.int k) _ _ => decide (k = i)
    | _ => false
  | .str s, ex => match ex with
    | .Constant (.str k) _ _ => decide (k = s) && PySem.PyData.strOk s
    | _ => false
  | .glb g, ex => match ex with
    | .Name x _ => c.gl x && (match c.gls[g]? with | some y => decide (y = x) | none => false)
    | _ => false
  | .bin o a b, ex => match ex with
    | .BinOp ea op eb _ => decide (op = o.syn) && chkE c a ea && chkE c b eb
    | _ => false
  | .neg a, ex => match ex with
    | .UnaryOp .USub ea _ => chkE c a ea
    | _ => false
  | .cmp o a b, ex => match ex with
    | .Compare ea [op] [eb] _ => decide (op = o.syn) && chkE c a ea && chkE c b eb && !behindInMarks o.syn eb
    | _ => false
  | .chn o p a b d, ex => match ex with
    | .Compare ea [op, pp] [eb, ed] _ => decide (op = o.syn) && decide (pp = p.syn) && chkE c a ea && chkE c b eb && chkE c d ed && !lastMarks [o.syn, p.syn] [eb, ed]
    | _ => false
  | .not a, ex => match ex with
    | .UnaryOp .Not ea _ => a.testable && chkE c a ea
    | _ => false
  | .and a b, ex => match ex with
    | .BoolOp .And (ea :: eb :: rest) pos => a.testable && chkE c a ea && (match rest with
      | [] => b.testable && chkE c b eb
      | _ => b.isBool && chkE c b (.BoolOp .And (eb :: rest) pos))
    | _ => false
  | .or a b, ex => match ex with
    | .BoolOp .Or (ea :: eb :: rest) pos => a.testable && chkE c a ea && (match rest with
      | [] => b.testable && chkE c b eb
      | _ => b.isBool && chkE c b (.BoolOp .Or (eb :: rest) pos))
    | _ => false
  | .ite t a b, ex => match ex with
    | .IfExp et ea eb _ => t.testable && chkE c t et && chkE c a ea && chkE c b eb
    | _ => false
  | .tup es, ex => match ex with
    | .Tuple exs _ _ => chkEs c es exs
    | _ => false
  | .lst es, ex => match ex with
    | .List exs _ => chkEs c es exs
    | _ => false
  | .idx a i, ex => match ex with
    | .Subscript ea ei _ => chkE c a ea && chkE c i ei && plainE ei
    | _ => false
  | .slc a lo hi, ex => match ex with
    | .Subscript ea (.Slice el eh none _) _ => chkE c a ea && (match el with
      | none => lo.isPart
      | some el => !lo.isPart && chkE c lo el) && (match eh with
      | none => hi.isPart
      | some eh => !hi.isPart && chkE c hi eh)
    | _ => false
  | .call f es, ex => match ex with
    | .Call (.Name x _) exs [] _ => c.gl x && (match c.fns[f]? with | some y => decide (y = x) | none => false) && chkAs c es exs
    | _ => false
  | .callk f n is es, ex => match ex with
    | .Call (.Name x _) [] kws _ => c.gl x && (match c.fns[f]? with | some y => decide (y = x) | none => false) && decide (n = 0) && (c.kbs.any fun q => decide (q.1 = f) && decide (q.2.2 = is) && decide (kws.map (·.arg) = q.2.1.map some) && decide (es.len = q.2.1.length) && ((List.range q.2.1.length).map is.idxOf).isPerm (List.range q.2.1.length)) && chkKs c es kws
    | _ => false
  | .blt b es, ex => match ex with
    | .Call (.Name x _) (ex :: exs) [] _ => b.known && decide (x = Str.ofString b.nm) && c.blt x && chkEs c es (ex :: exs)
    | _ => false
  | .isi a t, ex => match ex with
    | .Call (.Name x _) [ea, .Name y _] [] _ => decide (x = "isinstance") && c.blt x && chkE c a ea && plainE ea && decide (y = Str.ofString t.nm) && c.blt y
    | _ => false
  | .isis a ts, ex => match ex with
    | .Call (.Name x _) [ea, .Tuple exs _ _] [] _ => decide (x = "isinstance") && c.blt x && chkE c a ea && plainE ea && !ts.isEmpty && decide (ts.length ≤ 100) && chkTy c ts exs
    | _ => false
  | .comp elt tg it cond has own, ex => match ex with
    | .ListComp ee [⟨te, ie, ifs, as⟩] sc _ => decide (as = 0) && chkI c it te ie && notSet ie && c.blkOk sc (ownOf c own) && chkG (c.blk sc) tg te && chkE (c.blk sc) elt ee &&
      (match ifs with
      | [] => !has && (match cond with | .bl true => true | _ => false)
      | [ce] => has && cond.testable && chkE (c.blk sc) cond ce
      | _ => false)
    | _ => false
  | .mth k p es, ex => match ex with
    | .Call (.Attribute ep nm p2) exs [] pos => k.known && decide (nm = k.nm) && chkP c p ep && (p2.endLine == pos.line) && chkM c p.isRoot es exs
    | _ => false
def chkEs (c : Cc) : Es → List Expr → Bool
  | .nil, exs => match exs with
    | [] => true
    | _ => false
  | .cons e es, exs => match exs with
    | ex :: exs => chkE c e ex && plainE ex && chkEs c es exs
    | _ => false
def chkM (c : Cc) (r : Bool) : Es → List Expr → Bool
  | .nil, exs => match exs with
    | [] => true
    | _ => false
  | .cons e es, exs => match exs with
    | [ee] => es.isNil && chkE c e ee && plainE ee && (r || e.quiet)
    | _ => false
def chkAs (c : Cc) : Es → List Expr → Bool
  | .nil, exs => match exs with
    | [] => true
    | _ => false
  | .cons e es, exs => match exs with
    | ex :: exs => (match e.lent? with
      | some i => (match ex with
        | .Name x _ => c.vis i x
        | _ => false)
      | none => chkE c e ex && plainE ex) && chkAs c es exs
    | _ => false
def chkKs (c : Cc) : Es → List Keyword → Bool
  | .nil, kws => match kws with
    | [] => true
    | _ => false
  | .cons e es, kws => match kws with
    | kw :: kws => (match e.lent? with
      | some i => (match kw.value with
        | .Name x _ => c.vis i x
        | _ => false)
      | none => chkE c e kw.value) && chkKs c es kws
    | _ => false
def chkI (c : Cc) : It → Expr → Expr → Bool
  | .rng1 a, _, ie => match ie with
    | .Call (.Name x _) [ea] [] _ => decide (x = "range") && c.blt x && chkE c a ea && plainE ea
    | _ => false
  | .rng2 a b, _, ie => match ie with
    | .Call (.Name x _) [ea, eb] [] _ => decide (x = "range") && c.blt x && chkE c a ea && plainE ea && chkE c b eb && plainE eb
    | _ => false
  | .froz i, _, ie => match ie with
    | .Name x _ => c.vis i x
    | _ => false
  | .seqv a, _, ie => chkE c a ie
  | .seq a, _, ie => chkE c a ie
  | .zip _ _, _, _ => false
  | .enum _, _, _ => false
def chkP (c : Cc) : P → Expr → Bool
  | .root i, ex => match ex with
    | .Name x _ => c.vis i x
    | _ => false
  | .at p e, ex => match ex with
    | .Subscript ep ei _ => chkP c p ep && chkE c e ei && e.quiet && plainE ei
    | _ => false
def chkG (c : Cc) : Tg → Expr → Bool
  | .nm i, ex => match ex with
    | .Name x _ => c.loc i x
    | _ => false
  | .tup ts, ex => match ex with
    | .Tuple es _ _ => chkGs c ts es && es.all plainE && es.length == ts.len
    | _ => false
def chkGs (c : Cc) : Tgs → List Expr → Bool
  | .nil, exs => match exs with
    | [] => true
    | _ => false
  | .cons t ts, exs => match exs with
    | ex :: exs => chkG c t ex && plainE ex && chkGs c ts exs
    | _ => false
end
/-- the stores of a, b = x, y go from the right: as the model asks -/
def Cc.swapped (c : Cc) (ts vs : List Expr) : Option (List Str) :=
  let line := (ts.head?.map (·.pos.line)).getD 0
  let names := ts.filterMap fun
    | .Name id pos => if c.lk id == some .local && pos.line == line then some id else none
    | _ => none
  if names.length != ts.length || names.eraseDups.length != names.length then none
  else if vs.all (foldedForSure 8) then none else some names
/-- name = [..] on one line -/
def Cc.lcSwap (c : Cc) (x : Str) (px : Pos) (sc : Scope) (pv : Pos) : Bool := NK.isLoc (c.lk x) && (px.line == pv.line) && !(sc.names.any fun (n, k) => n == x && (k == .local || k == .cell))
def noComp' : Expr → Bool := noComp
def isTupE : Expr → Bool
  | .Tuple .. => true
  | .List .. => true
  | _ => false
def isConst : Expr → Bool
  | .Tuple .. => true
  | _ => false
def starE : Expr → Bool
  | .Starred .. => true
  | _ => false
def nameOn (c : Cc) (line : Nat) : Expr → Option Str
  | .Name id pos => if c.lk id == some .local && pos.line == line then some id else none
  | _ => none
/-- the stores go as they stand -/
def swNone (c : Cc) (te ex : Expr) : Bool := match te, ex with
  | .Tuple ts _ _, .Tuple vs _ _ => !(ts.length == 2 || ts.length == 3) || vs.length != ts.length || vs.any starE ||
      (let names := ts.filterMap (nameOn c ((ts.head?.map (·.pos.line)).getD 0)); (names.length != ts.length || names.eraseDups.length != names.length)) || vs.all (foldedForSure 8)
  | .List _ _, .Tuple _ _ _ => false
  | _, _ => true
mutual
def chkS (c : Cc) : S → Stmt → Bool
  | .set tg e, st => match st with
    | .Assign [te] ex _ => chkE c e ex && chkG c tg te && plainE te && (match ex with
      | .ListComp _ _ sc pv => (match te with
        | .Name x px => if c.lcSwap x px sc pv then (match tg, e with | .nm _, .comp _ _ _ _ _ _ => true | _, _ => false) else true
        | _ => false)
      | _ => noComp ex && swNone c te ex)
    | _ => false
  | .par is es, st => match st with
    | .Assign [.Tuple [.Name x px, .Name y py] kt pt] (.Tuple [a, b] k2 p2) _ => chkEs c es [a, b] && (match is with
      | [i, j] => c.loc i x && c.loc j y && NK.isLoc (c.lk x) && NK.isLoc (c.lk y) && (px.line == py.line) && !decide (x = y) && !(foldedForSure 8 a && foldedForSure 8 b) && !(constantsAlone 8 a && constantsAlone 8 b) && (i != j)
      | _ => false)
    | .Assign [.Tuple [.Name x px, .Name y py, .Name z pz] kt pt] (.Tuple [a, b, d] k2 p2) _ => chkEs c es [a, b, d] && (match is with
      | [i, j, l] => c.loc i x && c.loc j y && c.loc l z && NK.isLoc (c.lk x) && NK.isLoc (c.lk y) && NK.isLoc (c.lk z) && (px.line == py.line) && (px.line == pz.line) && !decide (x = y) && !decide (x = z) && !decide (y = z) && !(foldedForSure 8 a && foldedForSure 8 b && foldedForSure 8 d) && !(constantsAlone 8 a && constantsAlone 8 b && constantsAlone 8 d) && (i != j) && (i != l) && (j != l)
      | _ => false)
    | _ => false
  | .put p e, st => match st with
    | .Assign [te] ex _ => (match p with | .at _ _ => true | _ => false) && chkE c e ex && chkP c p te && noComp ex
    | _ => false
  | .putr x i e, st => match st with
    | .Assign [.Subscript (.Name nm _) ei _] ex _ => c.vis x nm && chkE c e ex && chkE c i ei && plainE ei && noComp ex
    | _ => false
  | .aug i o e, st => match st with
    | .AugAssign (.Name x _) op ex _ => c.loc i x && chkE c e ex && (match o, op with
      | .add, .Add => true
      | .sub, .Sub => true
      | _, _ => false)
    | _ => false
  | .augp _ _ _, _ => false
  | .ex e, st => match st with
    | .Expr ex _ => chkE c e ex && noComp ex
    | _ => false
  | .ret e, st => match st with
    | .Return (some ex) _ => chkE c e ex
    | _ => false
  | .ret0, st => match st with
    | .Return none _ => true
    | _ => false
  | .ite t a b, st => match st with
    | .If te as bs _ => t.testable && chkE c t te && chkSs c a as && chkSs c b bs
    | _ => false
  | .loop tg it b, st => match st with
    | .For te ie bs [] _ => chkG c tg te && chkI c it te ie && notSet ie && chkSs c b bs
    | _ => false
  | .whl t b, st => match st with
    | .While te bs [] _ => t.testable && chkE c t te && chkSs c b bs
    | _ => false
  | .brk, st => match st with
    | .Break _ => true
    | _ => false
  | .cnt, st => match st with
    | .Continue _ => true
    | _ => false
  | .pass, st => match st with
    | .Pass _ => true
    | _ => false
def chkSs (c : Cc) : Ss → List Stmt → Bool
  | .nil, sts => match sts with
    | [] => true
    | _ => false
  | .cons s ss, sts => match sts with
    | st :: sts => chkS c s st && chkSs c ss sts
    | _ => false
end
end Ev
end

section
set_option Elab.async false
set_option linter.all false
set_option maxRecDepth 100000
/-! EvC2: the check's meaning. -/
namespace Ev
open PySem L2
structure Okc (c : Cc) (X : Cx) (gl : Nat → Option D) (call : Nat → List D → R D) (XR : XRel) (W : WX) : Prop where
  N : X.N = c.N
  nd : c.N.Nodup
  sc : X.env.scope.names = c.names
  kind : X.env.scope.kind = c.kind
  kf : c.kind = .function
  fnc : ∀ x, NK.isCell (c.raw.lookup x) = true → X.fn x = true
  calm : X.calm = true
  units : X.A.units + 64 < cLine
  tk : Takes X W
  ps : PassesOwn (model X.prog X.w) X.A X.env X.xe
  tops : ∀ x, (c.tops.any fun y => decide (y = x)) = true → X.mg x = none
  fns : ∀ f x, c.fns[f]? = some x → FnAt X XR call f x
  kbs : ∀ f x ks is, c.fns[f]? = some x → (f, ks, is) ∈ c.kbs → FnK X XR call f x ks is
  gls : ∀ g x, c.gls[g]? = some x → ∃ (a : A) (u : Value), X.mg x = some u ∧ RelV a.val u ∧ (∀ H, a.ok X.K H) ∧ a.er.imm = true ∧ gl g = some a.er
section
variable {c : Cc} {X : Cx} {gl : Nat → Option D} {call : Nat → List D → R D} {XR : XRel} {W : WX}
theorem nk_loc {o : Option NameKind} (h : NK.isLoc o = true) : o = some .local := by
  unfold NK.isLoc at h
  split at h
  · rfl
  · cases h
theorem nk_cell {o : Option NameKind} (h : NK.isCell o = true) : o = some .cell := by
  unfold NK.isCell at h
  split at h
  · rfl
  · cases h
theorem nk_free {o : Option NameKind} (h : NK.isFree o = true) : o = some .free := by
  unfold NK.isFree at h
  split at h
  · rfl
  · cases h
theorem nk_gl {o : Option NameKind} (h : NK.isGl o = true) : o = some .globalImplicit := by
  unfold NK.isGl at h
  split at h
  · rfl
  · cases h
theorem plainN_of {x : Str} (h : plainN x = true) : (x == ("__debug__" : Str)) = false ∧ (x == ("__classdict__" : Str)) = false := by
  unfold plainN at h
  simpa using h
theorem at_of {i : Nat} {x : Str} (O : Okc c X gl call XR W) (h : c.at i x = true) : X.N[i]? = some x := by
  unfold Cc.at at h
  rw [O.N]
  split at h
  · rename_i y e
    rw [e, of_decide_eq_true h]
  · cases h
theorem vis_of {i : Nat} {x : Str} (O : Okc c X gl call XR W) (h : c.vis i x = true) : X.N[i]? = some x ∧ Vis X.env.scope x ∧ (x == ("__debug__" : Str)) = false ∧ (x == ("__classdict__" : Str)) = false := by
  unfold Cc.vis at h
  simp only [Bool.and_eq_true, Bool.or_eq_true] at h
  refine ⟨at_of O h.1.1, ?_, plainN_of h.2⟩
  unfold Vis
  rw [O.sc]
  rcases h.1.2 with (q | q) | q
  · exact .inl (nk_loc q)
  · exact .inr (.inl (nk_cell q))
  · exact .inr (.inr (nk_free q))
theorem loc_of {i : Nat} {x : Str} (O : Okc c X gl call XR W) (h : c.loc i x = true) : X.N[i]? = some x ∧ L2.Loc X.env.scope x ∧ (X.fn x = true ∨ X.env.scope.names.lookup x = some .local) := by
  unfold Cc.loc at h
  simp only [Bool.and_eq_true, Bool.or_eq_true] at h
  refine ⟨at_of O h.1, ?_⟩
  rcases h.2 with q | q
  · have e : X.env.scope.names.lookup x = some .local := by rw [O.sc]; exact nk_loc q
    exact ⟨.inl e, .inr e⟩
  · have e : X.env.scope.names.lookup x = some .cell := by rw [O.sc]; exact nk_cell q.1
    exact ⟨.inr e, .inl (O.fnc x q.2)⟩
theorem gl_of {x : Str} (O : Okc c X gl call XR W) (h : c.gl x = true) : Gl X x ∧ (x == ("__debug__" : Str)) = false := by
  unfold Cc.gl at h
  rw [Bool.and_eq_true] at h
  refine ⟨?_, (plainN_of h.2).1⟩
  have := nk_gl h.1
  unfold Cc.lk at this
  rw [← O.sc] at this
  exact this
theorem blt_of {x : Str} (O : Okc c X gl call XR W) (h : c.blt x = true) : Gl X x ∧ (x == ("__debug__" : Str)) = false ∧ X.mg x = none ∧ x ≠ "__name__" := by
  unfold Cc.blt at h
  simp only [Bool.and_eq_true, Bool.not_eq_true'] at h
  obtain ⟨g, d⟩ := gl_of O h.1.1
  exact ⟨g, d, O.tops x h.1.2, of_decide_eq_false h.2⟩
theorem Blt.boot {b : Blt} (h : b.known = true) : bootBuiltins (Str.ofString b.nm) = some b.vl := by
  cases b <;> first | (simp [Blt.known] at h; done) | decide +kernel
theorem isi_boot : bootBuiltins "isinstance" = some (.builtin "isinstance") := by decide +kernel
theorem Ty.boot (t : Ty) : bootBuiltins (Str.ofString t.nm) = some (.type t.nm) := by
  cases t <;> decide +kernel
theorem soundTy : ∀ (ts : List Ty) (exs : List Expr) {c : Cc} {X : Cx} {gl : Nat → Option D} {call : Nat → List D → R D} {XR : XRel} {W : WX}, Okc c X gl call XR W → chkTy c ts exs = true → Paired (fun (t : Ty) ex => plainE ex = true ∧ PE X ex (tC (.ty t.nm))) ts exs
  | [], exs, c, X, gl, call, XR, W, O, h => by
    simp only [chkTy] at h
    split at h
    · exact .nil
    · cases h
  | t :: ts, exs, c, X, gl, call, XR, W, O, h => by
    simp only [chkTy] at h
    split at h
    · simp only [Bool.and_eq_true] at h
      have e2 := of_decide_eq_true h.1.1
      subst e2
      obtain ⟨g', d', m', n'⟩ := blt_of O h.1.2
      exact .cons ⟨rfl, pe_ty g' m' (Ty.boot t) n' d'⟩ (soundTy ts _ O h.2)
    · cases h
theorem blkOk_of {sc : Scope} {own : List (Str × Nat)} (O : Okc c X gl call XR W) (h : c.blkOk sc own = true) : BlkOk X.N X.env.scope sc own := by
  refine blkOk_by ?_
  unfold Cc.blkOk at h
  unfold blkC
  rw [O.N, O.sc]
  exact h
theorem okc_blk {sc : Scope} {own : List (Str × Nat)} (O : Okc c X gl call XR W) (h : c.blkOk sc own = true) (s : Shared) (H : Hp) (C : Addr) (cl : List (Str × Addr)) (fp : List Addr) :
    Okc (c.blk sc) (X.blk s H sc (compEnvC sc cl C X.env) fp) gl call XR (fun _ _ _ _ => False) where
  N := O.N
  nd := O.nd
  sc := by
    show (relS sc X.env.scope).names = relN sc.names c
    unfold relS relN
    rw [O.sc, O.kind]
  kind := rfl
  kf := (blkOk_of O h).kind
  fnc := fun x hx => by
    show (sc.names.lookup x == some .cell) = true
    have : sc.names.lookup x = some .cell := nk_cell hx
    rw [this]; rfl
  calm := O.calm
  units := O.units
  tk := takes0
  ps := PassesOwn.never
  tops := O.tops
  fns := fun f x hx => ⟨(O.fns f x hx).ex⟩
  kbs := fun f x ks is h1 h2 => ⟨(O.kbs f x ks is h1 h2).ex⟩
  gls := O.gls
theorem beq_opt {o : Option Str} {x : Str} (h : (match o with | some y => decide (y = x) | none => false) = true) : o = some x := by
  cases o with
  | none => cases h
  | some y => rw [of_decide_eq_true h]
end
inductive LS (X : Cx) (gl : Nat → Option D) (call : Nat → List D → R D) (XR : XRel) (W : WX) : Ev.Es → List Expr → Prop
  | nil : LS X gl call XR W .nil []
  | cons {e ex es exs} : SE X gl call XR W e ex → plainE ex = true → LS X gl call XR W es exs → LS X gl call XR W (.cons e es) (ex :: exs)
section
variable {X : Cx} {gl : Nat → Option D} {call : Nat → List D → R D} {XR : XRel} {W : WX}
theorem LS.pe {es : Ev.Es} {exs : List Expr} (h : LS X gl call XR W es exs) : PA X exs (tEs X.K gl call XR W es) := by
  induction h with
  | nil => exact s_nilE
  | cons h p _ ih => exact s_consE h ih p
theorem LS.pb {es : Ev.Es} {exs : List Expr} (h : LS X gl call XR W es exs) : PA X exs (tBs X.K gl call XR W es) := by
  induction h with
  | nil => exact s_nilB
  | cons h p _ ih => exact s_consB h ih p
theorem LS.pl {es : Ev.Es} {exs : List Expr} (h : LS X gl call XR W es exs) : exs.all plainE = true := by
  induction h with
  | nil => rfl
  | cons h p _ ih => rw [List.all_cons, p, ih]; rfl
end
theorem attrBase {o : Expr} {nm : Str} {env : PySem.Env} {p : Ev.P} {c : Cc} (h : chkP c p o = true) : attributeBase o nm env (eval o env) = eval o env := by
  cases p with
  | root i =>
    simp only [chkP] at h
    split at h
    · rfl
    · cases h
  | «at» p e =>
    simp only [chkP] at h
    split at h
    · rfl
    · cases h
/-- what the check tells -/
abbrev SB (X : Cx) (gl : Nat → Option D) (call : Nat → List D → R D) (XR : XRel) (W : WX) (e : Ev.E) (ex : Expr) : Prop := SE X gl call XR W e ex ∧ (e.isBool = true → PW X ex (tT X.K gl call XR W e))
mutual
theorem soundE : ∀ (e : Ev.E) (ex : Expr) {c : Cc} {X : Cx} {gl : Nat → Option D} {call : Nat → List D → R D} {XR : XRel} {W : WX}, Okc c X gl call XR W → chkE c e ex = true → SB X gl call XR W e ex
  | .var i, ex, c, X, gl, call, XR, W, O, h => by
    simp only [chkE] at h
    split at h
    · obtain ⟨a, b, d, f⟩ := vis_of O h
      exact ⟨s_var a b d f, fun z => by cases z⟩
    · cases h
  | .mov i, ex, c, X, gl, call, XR, W, O, h => by
    simp only [chkE] at h
    split at h
    · obtain ⟨a, b, d, f⟩ := vis_of O h
      exact ⟨s_mov a b d f, fun z => by cases z⟩
    · cases h
  | .lend i, ex, c, X, gl, call, XR, W, O, h => by simp [chkE] at h
  | .part, ex, c, X, gl, call, XR, W, O, h => by simp [chkE] at h
  | .non, ex, c, X, gl, call, XR, W, O, h => by
    simp only [chkE] at h
    split at h
    · exact ⟨s_non, fun z => by cases z⟩
    · cases h
  | .bl b, ex, c, X, gl, call, XR, W, O, h => by
    simp only [chkE] at h
    split at h
    · rw [beq_iff_eq] at h
      subst h
      exact ⟨s_bl, fun z => by cases z⟩
    · cases h
  | .int i, ex, c, X, gl, call, XR, W, O, h => by
    simp only [chkE] at h
    split at h
    · have := of_decide_eq_true h
      subst this
      exact ⟨s_int, fun z => by cases z⟩
    · cases h
  | .str s, ex, c, X, gl, call, XR, W, O, h => by
    simp only [chkE] at h
    split at h
    · rw [Bool.and_eq_true] at h
      have := of_decide_eq_true h.1
      subst this
      exact ⟨s_str h.2, fun z => by cases z⟩
    · cases h
  | .glb g, ex, c, X, gl, call, XR, W, O, h => by
    simp only [chkE] at h
    split at h
    · rw [Bool.and_eq_true] at h
      obtain ⟨a, u, h1, h2, h3, h4, h5⟩ := O.gls g _ (beq_opt h.2)
      obtain ⟨q, d⟩ := gl_of O h.1
      exact ⟨s_glb q h1 h2 h3 h4 h5 d, fun z => by cases z⟩
    · cases h
  | .bin o a b, ex, c, X, gl, call, XR, W, O, h => by
    simp only [chkE] at h
    split at h
    · simp only [Bool.and_eq_true] at h
      have := of_decide_eq_true h.1.1
      subst this
      exact ⟨s_bin (soundE a _ O h.1.2).1 (soundE b _ O h.2).1, fun z => by cases z⟩
    · cases h
  | .neg a, ex, c, X, gl, call, XR, W, O, h => by
    simp only [chkE] at h
    split at h
    · exact ⟨s_neg (soundE a _ O h).1, fun z => by cases z⟩
    · cases h
  | .cmp o a b, ex, c, X, gl, call, XR, W, O, h => by
    simp only [chkE] at h
    split at h
    · simp only [Bool.and_eq_true, Bool.not_eq_true'] at h
      have := of_decide_eq_true h.1.1.1
      subst this
      exact ⟨s_cmp O.units (soundE a _ O h.1.1.2).1 (soundE b _ O h.1.2).1 h.2, fun z => by cases z⟩
    · cases h
  | .chn o p a b d, ex, c, X, gl, call, XR, W, O, h => by
    simp only [chkE] at h
    split at h
    · simp only [Bool.and_eq_true, Bool.not_eq_true'] at h
      have := of_decide_eq_true h.1.1.1.1.1
      subst this
      have := of_decide_eq_true h.1.1.1.1.2
      subst this
      exact ⟨s_chn O.units (soundE a _ O h.1.1.1.2).1 (soundE b _ O h.1.1.2).1 (soundE d _ O h.1.2).1 h.2, fun z => by cases z⟩
    · cases h
  | .not a, ex, c, X, gl, call, XR, W, O, h => by
    simp only [chkE] at h
    split at h
    · rw [Bool.and_eq_true] at h
      exact ⟨s_not (soundE a _ O h.2).1 h.1, fun z => by cases z⟩
    · cases h
  | .and a b, ex, c, X, gl, call, XR, W, O, h => by
    simp only [chkE] at h
    split at h
    · rename_i ea eb rest pos
      rw [Bool.and_eq_true, Bool.and_eq_true] at h
      obtain ⟨⟨h1, h2⟩, h3⟩ := h
      have q : PE X (.BoolOp .And (ea :: eb :: rest) pos) (tV X.K gl call XR W (.and a b)) ∧ PW X (.BoolOp .And (ea :: eb :: rest) pos) (tT X.K gl call XR W (.and a b)) := by
        split at h3
        · rw [Bool.and_eq_true] at h3
          have hb := (soundE b _ O h3.2).1
          exact s_and (soundE a _ O h2).1 (pe_one hb.v) h1 (pw_and1 (hb.t h3.1))
        · rw [Bool.and_eq_true] at h3
          have hb := soundE b _ O h3.2
          exact s_and (soundE a _ O h2).1 hb.1.v h1 (hb.2 h3.1)
      exact ⟨s_boolop q rfl (fun _ => rfl), fun _ => q.2⟩
    · cases h
  | .or a b, ex, c, X, gl, call, XR, W, O, h => by
    simp only [chkE] at h
    split at h
    · rename_i ea eb rest pos
      rw [Bool.and_eq_true, Bool.and_eq_true] at h
      obtain ⟨⟨h1, h2⟩, h3⟩ := h
      have q : PE X (.BoolOp .Or (ea :: eb :: rest) pos) (tV X.K gl call XR W (.or a b)) ∧ PW X (.BoolOp .Or (ea :: eb :: rest) pos) (tT X.K gl call XR W (.or a b)) := by
        split at h3
        · rw [Bool.and_eq_true] at h3
          have hb := (soundE b _ O h3.2).1
          exact s_or (soundE a _ O h2).1 (pe_one hb.v) h1 (pw_or1 (hb.t h3.1))
        · rw [Bool.and_eq_true] at h3
          have hb := soundE b _ O h3.2
          exact s_or (soundE a _ O h2).1 hb.1.v h1 (hb.2 h3.1)
      exact ⟨s_boolop q rfl (fun _ => rfl), fun _ => q.2⟩
    · cases h
  | .ite t a b, ex, c, X, gl, call, XR, W, O, h => by
    simp only [chkE] at h
    split at h
    · simp only [Bool.and_eq_true] at h
      exact ⟨s_ite (soundE t _ O h.1.1.2).1 h.1.1.1 (soundE a _ O h.1.2).1 (soundE b _ O h.2).1, fun z => by cases z⟩
    · cases h
  | .tup es, ex, c, X, gl, call, XR, W, O, h => by
    simp only [chkE] at h
    split at h
    · exact ⟨s_tup (soundEs es _ O h).pe, fun z => by cases z⟩
    · cases h
  | .lst es, ex, c, X, gl, call, XR, W, O, h => by
    simp only [chkE] at h
    split at h
    · exact ⟨s_lst (soundEs es _ O h).pe, fun z => by cases z⟩
    · cases h
  | .idx a i, ex, c, X, gl, call, XR, W, O, h => by
    simp only [chkE] at h
    split at h
    · simp only [Bool.and_eq_true] at h
      exact ⟨s_idx (soundE a _ O h.1.1).1 (soundE i _ O h.1.2).1 h.2, fun z => by cases z⟩
    · cases h
  | .slc a lo hi, ex, c, X, gl, call, XR, W, O, h => by
    simp only [chkE] at h
    split at h
    · rename_i ea el eh p2 pos
      simp only [Bool.and_eq_true] at h
      obtain ⟨⟨h1, h2⟩, h3⟩ := h
      have part : ∀ {e : Ev.E}, e.isPart = true → e = .part := fun {e} h => by cases e <;> first | rfl | (simp [E.isPart] at h)
      have np : ∀ {e : Ev.E}, e.isPart = false → e ≠ .part := fun {e} h z => by subst z; simp [E.isPart] at h
      have kl : ∃ tl, PO X el tl ∧ ((lo = .part ∧ tl = tNoPart) ∨ (lo ≠ .part ∧ tl = tPart (tV X.K gl call XR W lo))) := by
        split at h2
        · exact ⟨_, po_none, .inl ⟨part h2, rfl⟩⟩
        · simp only [Bool.and_eq_true, Bool.not_eq_true'] at h2
          exact ⟨_, po_some (soundE lo _ O h2.2).1.v, .inr ⟨np h2.1, rfl⟩⟩
      have kh : ∃ th, PO X eh th ∧ ((hi = .part ∧ th = tNoPart) ∨ (hi ≠ .part ∧ th = tPart (tV X.K gl call XR W hi))) := by
        split at h3
        · exact ⟨_, po_none, .inl ⟨part h3, rfl⟩⟩
        · simp only [Bool.and_eq_true, Bool.not_eq_true'] at h3
          exact ⟨_, po_some (soundE hi _ O h3.2).1.v, .inr ⟨np h3.1, rfl⟩⟩
      obtain ⟨tl, l1, l2⟩ := kl
      obtain ⟨th, r1, r2⟩ := kh
      exact ⟨s_slc (soundE a _ O h1).1 l1 r1 l2 r2, fun z => by cases z⟩
    · cases h
  | .call f es, ex, c, X, gl, call, XR, W, O, h => by
    simp only [chkE] at h
    split at h
    · simp only [Bool.and_eq_true] at h
      obtain ⟨g, d⟩ := gl_of O h.1.1
      obtain ⟨a1, a2, a3⟩ := soundAs es _ O h.2
      exact ⟨s_call O.tk (O.fns f _ (beq_opt h.1.2)) a3 a1 a2 g d, fun z => by cases z⟩
    · cases h
  | .callk f n is es, ex, c, X, gl, call, XR, W, O, h => by
    simp only [chkE] at h
    split at h
    · simp only [Bool.and_eq_true] at h
      obtain ⟨⟨⟨⟨h1, h2⟩, h3⟩, h4⟩, h5⟩ := h
      obtain ⟨g, d⟩ := gl_of O h1
      have := of_decide_eq_true h3
      subst this
      obtain ⟨q, mq, hq⟩ := List.any_eq_true.mp h4
      simp only [Bool.and_eq_true] at hq
      obtain ⟨⟨⟨⟨q1, q2⟩, q3⟩, q4⟩, q5⟩ := hq
      obtain ⟨f', ks, is'⟩ := q
      have e1 : f' = f := of_decide_eq_true q1
      have e2 : is' = is := of_decide_eq_true q2
      subst e1 e2
      exact ⟨s_callk O.tk (O.kbs f' _ ks is' (beq_opt h2) mq) (soundKs es _ O h5) (of_decide_eq_true q3) (of_decide_eq_true q4) q5 g d, fun z => by cases z⟩
    · cases h
  | .blt b es, ex, c, X, gl, call, XR, W, O, h => by
    simp only [chkE] at h
    split at h
    · simp only [Bool.and_eq_true] at h
      have e := of_decide_eq_true h.1.1.2
      obtain ⟨g, d, m, n⟩ := blt_of O h.1.2
      have L := soundEs es _ O h.2
      refine ⟨s_blt (e := .non) O.calm O.units L.pb L.pl g m ?_ n d, fun z => by cases z⟩
      rw [e]
      exact Blt.boot h.1.1.1
    · cases h
  | .isi a t, ex, c, X, gl, call, XR, W, O, h => by
    simp only [chkE] at h
    split at h
    · simp only [Bool.and_eq_true] at h
      obtain ⟨⟨⟨⟨⟨h1, h2⟩, h3⟩, h4⟩, h5⟩, h6⟩ := h
      have e1 := of_decide_eq_true h1
      have e2 := of_decide_eq_true h5
      subst e1 e2
      obtain ⟨g, d, m, n⟩ := blt_of O h2
      obtain ⟨g', d', m', n'⟩ := blt_of O h6
      exact ⟨s_isi (soundE a _ O h3).1 h4 g m isi_boot n d (pe_ty g' m' (Ty.boot t) n' d'), fun z => by cases z⟩
    · cases h
  | .isis a ts, ex, c, X, gl, call, XR, W, O, h => by
    simp only [chkE] at h
    split at h
    · simp only [Bool.and_eq_true, Bool.not_eq_true'] at h
      obtain ⟨⟨⟨⟨⟨⟨h1, h2⟩, h3⟩, h4⟩, h5⟩, h6⟩, h7⟩ := h
      have e1 := of_decide_eq_true h1
      subst e1
      obtain ⟨g, d, m, n⟩ := blt_of O h2
      exact ⟨s_isis (soundE a _ O h3).1 h4 g m isi_boot n d (soundTy ts _ O h7) (by rintro rfl; simp at h5) (of_decide_eq_true h6), fun z => by cases z⟩
    · cases h
  | .comp elt tg it cond has own, ex, c, X, gl, call, XR, W, O, h => by
    simp only [chkE] at h
    split at h
    · rename_i ee te ie ifs as sc pos
      simp only [Bool.and_eq_true] at h
      obtain ⟨⟨⟨⟨⟨⟨h1, h2⟩, h3⟩, h4⟩, h5⟩, h6⟩, h7⟩ := h
      have e1 := of_decide_eq_true h1
      subst e1
      have ho : own = (ownOf c own).map (·.2) := by unfold ownOf; rw [List.map_map]; exact (List.map_id _).symm
      refine ⟨s_comp O.calm (by rw [O.N]; exact O.nd) ho (soundI it te ie O h2) (blkOk_of O h4) (fun s H C cl fp => soundG tg te (okc_blk O h4 s H C cl fp) h5) (fun s H C cl fp => pts_of (has := has) ?_) (fun s H C cl fp => (soundE elt ee (okc_blk O h4 s H C cl fp) h6).1.v) h3, fun z => by cases z⟩
      split at h7
      · simp only [Bool.and_eq_true, Bool.not_eq_true'] at h7
        refine .inl ⟨h7.1, rfl, ?_⟩
        have h8 := h7.2
        split at h8
        · rfl
        · cases h8
      · simp only [Bool.and_eq_true] at h7
        exact .inr ⟨h7.1.1, _, rfl, (soundE cond _ (okc_blk O h4 s H C cl fp) h7.2).1.t h7.1.2⟩
      · cases h7
    · cases h
  | .mth k p es, ex, c, X, gl, call, XR, W, O, h => by
    simp only [chkE] at h
    split at h
    · simp only [Bool.and_eq_true] at h
      obtain ⟨⟨⟨⟨h1, h2⟩, h3⟩, h4⟩, h5⟩ := h
      have e := of_decide_eq_true h2
      rcases soundM es _ p.isRoot O h5 with ⟨rfl, rfl⟩ | ⟨e', ee, rfl, rfl, q1, q2, q3⟩
      · exact ⟨s_mth0 h1 e (soundP p _ O h3) (attrBase h3) h4, fun z => by cases z⟩
      · exact ⟨s_mth1 h1 e (soundP p _ O h3) q1 q3 q2 (attrBase h3) h4, fun z => by cases z⟩
    · cases h
theorem soundM : ∀ (es : Ev.Es) (exs : List Expr) (r : Bool) {c : Cc} {X : Cx} {gl : Nat → Option D} {call : Nat → List D → R D} {XR : XRel} {W : WX}, Okc c X gl call XR W → chkM c r es exs = true →
    (es = .nil ∧ exs = []) ∨ ∃ e ee, es = .cons e .nil ∧ exs = [ee] ∧ SE X gl call XR W e ee ∧ plainE ee = true ∧ (r = true ∨ e.quiet = true)
  | .nil, exs, r, c, X, gl, call, XR, W, O, h => by
    simp only [chkM] at h
    split at h
    · exact .inl ⟨rfl, rfl⟩
    · cases h
  | .cons e es, exs, r, c, X, gl, call, XR, W, O, h => by
    simp only [chkM] at h
    split at h
    · simp only [Bool.and_eq_true, Bool.or_eq_true] at h
      have : es = .nil := by cases es <;> first | rfl | (have z := h.1.1.1; simp [Es.isNil] at z)
      subst this
      exact .inr ⟨e, _, rfl, rfl, (soundE e _ O h.1.1.2).1, h.1.2, h.2⟩
    · cases h
theorem soundEs : ∀ (es : Ev.Es) (exs : List Expr) {c : Cc} {X : Cx} {gl : Nat → Option D} {call : Nat → List D → R D} {XR : XRel} {W : WX}, Okc c X gl call XR W → chkEs c es exs = true → LS X gl call XR W es exs
  | .nil, exs, c, X, gl, call, XR, W, O, h => by
    simp only [chkEs] at h
    split at h
    · exact .nil
    · cases h
  | .cons e es, exs, c, X, gl, call, XR, W, O, h => by
    simp only [chkEs] at h
    split at h
    · simp only [Bool.and_eq_true] at h
      exact .cons (soundE e _ O h.1.1).1 h.1.2 (soundEs es _ O h.2)
    · cases h
theorem soundAs : ∀ (es : Ev.Es) (exs : List Expr) {c : Cc} {X : Cx} {gl : Nat → Option D} {call : Nat → List D → R D} {XR : XRel} {W : WX}, Okc c X gl call XR W → chkAs c es exs = true → PA X exs (tAs X.K gl call XR W es) ∧ exs.all plainE = true ∧ (exs = [] → es = .nil)
  | .nil, exs, c, X, gl, call, XR, W, O, h => by
    simp only [chkAs] at h
    split at h
    · exact ⟨s_nilA, rfl, fun _ => rfl⟩
    · cases h
  | .cons e es, exs, c, X, gl, call, XR, W, O, h => by
    simp only [chkAs] at h
    split at h
    · rename_i ex exs
      rw [Bool.and_eq_true] at h
      obtain ⟨a1, a2, _⟩ := soundAs es _ O h.2
      have h1 := h.1
      split at h1
      · rename_i i hl
        have he : e = .lend i := by cases e <;> simp [E.lent?] at hl; rw [hl]
        subst he
        split at h1
        · obtain ⟨a, b, d, f⟩ := vis_of O h1
          exact ⟨s_lentA a b d f a1, by rw [List.all_cons, a2]; rfl, fun z => by cases z⟩
        · cases h1
      · rename_i hl
        rw [Bool.and_eq_true] at h1
        exact ⟨s_consA hl (soundE e _ O h1.1).1 a1 h1.2, by rw [List.all_cons, a2, h1.2]; rfl, fun z => by cases z⟩
    · cases h
theorem soundKs : ∀ (es : Ev.Es) (kws : List Keyword) {c : Cc} {X : Cx} {gl : Nat → Option D} {call : Nat → List D → R D} {XR : XRel} {W : WX}, Okc c X gl call XR W → chkKs c es kws = true → PK X kws (tAs X.K gl call XR W es)
  | .nil, kws, c, X, gl, call, XR, W, O, h => by
    simp only [chkKs] at h
    split at h
    · exact s_nilK
    · cases h
  | .cons e es, kws, c, X, gl, call, XR, W, O, h => by
    simp only [chkKs] at h
    split at h
    · rename_i kw kws
      obtain ⟨nm, val, kp⟩ := kw
      rw [Bool.and_eq_true] at h
      have a1 := soundKs es _ O h.2
      have h1 := h.1
      split at h1
      · rename_i i hl
        have he : e = .lend i := by cases e <;> simp [E.lent?] at hl; rw [hl]
        subst he
        simp only at h1
        split at h1
        · obtain ⟨a, b, d, f⟩ := vis_of O h1
          exact s_lentK a b d f a1
        · cases h1
      · rename_i hl
        exact s_consK hl (soundE e _ O h1).1 a1
    · cases h
theorem soundI : ∀ (it : Ev.It) (te ie : Expr) {c : Cc} {X : Cx} {gl : Nat → Option D} {call : Nat → List D → R D} {XR : XRel} {W : WX}, Okc c X gl call XR W → chkI c it te ie = true → PI X te ie (tI X.K gl call XR W it)
  | .rng1 a, te, ie, c, X, gl, call, XR, W, O, h => by
    simp only [chkI] at h
    split at h
    · simp only [Bool.and_eq_true] at h
      have e := of_decide_eq_true h.1.1.1
      subst e
      obtain ⟨g, d, m, n⟩ := blt_of O h.1.1.2
      exact s_rng1 g m (soundE a _ O h.1.2).1 h.2
    · cases h
  | .rng2 a b, te, ie, c, X, gl, call, XR, W, O, h => by
    simp only [chkI] at h
    split at h
    · simp only [Bool.and_eq_true] at h
      obtain ⟨⟨⟨⟨⟨h1, h2⟩, h3⟩, h4⟩, h5⟩, h6⟩ := h
      have e := of_decide_eq_true h1
      subst e
      obtain ⟨g, d, m, n⟩ := blt_of O h2
      exact s_rng2 g m (soundE a _ O h3).1 (soundE b _ O h5).1 h4 h6
    · cases h
  | .froz i, te, ie, c, X, gl, call, XR, W, O, h => by
    simp only [chkI] at h
    split at h
    · obtain ⟨a, b, d, f⟩ := vis_of O h
      exact s_froz a b d f
    · cases h
  | .seqv a, te, ie, c, X, gl, call, XR, W, O, h => by
    simp only [chkI] at h
    exact s_seqv (soundE a _ O h).1
  | .seq a, te, ie, c, X, gl, call, XR, W, O, h => by
    simp only [chkI] at h
    exact s_seq (soundE a _ O h).1
  | .zip a b, te, ie, c, X, gl, call, XR, W, O, h => by simp [chkI] at h
  | .enum a, te, ie, c, X, gl, call, XR, W, O, h => by simp [chkI] at h
theorem soundP : ∀ (p : Ev.P) (ex : Expr) {c : Cc} {X : Cx} {gl : Nat → Option D} {call : Nat → List D → R D} {XR : XRel} {W : WX}, Okc c X gl call XR W → chkP c p ex = true → PE X ex (tP X.K gl call XR W p)
  | .root i, ex, c, X, gl, call, XR, W, O, h => by
    simp only [chkP] at h
    split at h
    · obtain ⟨a, b, d, f⟩ := vis_of O h
      exact s_rootP a b d f
    · cases h
  | .at p e, ex, c, X, gl, call, XR, W, O, h => by
    simp only [chkP] at h
    split at h
    · simp only [Bool.and_eq_true] at h
      exact s_atP (soundP p _ O h.1.1.1) (soundE e _ O h.1.1.2).1 h.1.2 h.2
    · cases h
theorem soundG : ∀ (t : Tg) (ex : Expr) {c : Cc} {X : Cx} {gl : Nat → Option D} {call : Nat → List D → R D} {XR : XRel} {W : WX} {ok : Nat → Bool}, Okc c X gl call XR W → chkG c t ex = true → PG X ex (tG X.K ok t)
  | .nm i, ex, c, X, gl, call, XR, W, ok, O, h => by
    simp only [chkG] at h
    split at h
    · obtain ⟨a, b, d⟩ := loc_of O h
      exact s_nm (by rw [O.N]; exact O.nd) a b d
    · cases h
  | .tup ts, ex, c, X, gl, call, XR, W, ok, O, h => by
    simp only [chkG] at h
    split at h
    · simp only [Bool.and_eq_true, beq_iff_eq] at h
      exact s_tupG O.calm (soundGs ts _ O h.1.1) h.1.2 h.2
    · cases h
theorem soundGs : ∀ (ts : Tgs) (exs : List Expr) {c : Cc} {X : Cx} {gl : Nat → Option D} {call : Nat → List D → R D} {XR : XRel} {W : WX} {ok : Nat → Bool}, Okc c X gl call XR W → chkGs c ts exs = true → PGs X exs (tGs X.K ok ts)
  | .nil, exs, c, X, gl, call, XR, W, ok, O, h => by
    simp only [chkGs] at h
    split at h
    · exact s_nilG
    · cases h
  | .cons t ts, exs, c, X, gl, call, XR, W, ok, O, h => by
    simp only [chkGs] at h
    split at h
    · simp only [Bool.and_eq_true] at h
      exact s_consG (soundG t _ O h.1.1) (soundGs ts _ O h.2) h.1.2
    · cases h
end
end Ev
end

section
set_option Elab.async false
set_option linter.all false
set_option maxRecDepth 100000
/-! EvC3: the check's meaning: statements. -/
namespace Ev
open PySem L2
section
variable {c : Cc} {X : Cx} {gl : Nat → Option D} {call : Nat → List D → R D} {XR : XRel} {W : WX}
theorem kindOf_eq (O : Okc c X gl call XR W) (x : Str) : X.env.kindOf x = c.lk x := by
  show X.env.scope.names.lookup x = c.names.lookup x
  rw [O.sc]
theorem bk_eq (O : Okc c X gl call XR W) : X.env.blockKind = .function := by
  unfold Env.blockKind
  rw [O.kind, O.kf]
  rfl
theorem starE_eq : (fun e : Expr => match e with | .Starred .. => true | _ => false) = starE := by
  funext e
  cases e <;> rfl
def nameOnE (env : PySem.Env) (line : Nat) : Expr → Option Str
  | .Name id pos => if env.kindOf id == some .local && pos.line == line then some id else none
  | _ => none
theorem nameOn_eq (O : Okc c X gl call XR W) (l : Nat) : nameOnE X.env l = nameOn c l := by
  funext e
  cases e <;> first | rfl | (simp only [nameOn, nameOnE, kindOf_eq O])
theorem sw_form (ts vs : List Expr) (k1 k2 : Nat) (p1 p2 : Pos) (env : PySem.Env) : ∃ u, swappedStores [.Tuple ts k1 p1] (.Tuple vs k2 p2) env =
    (if (!(ts.length == 2 || ts.length == 3) || vs.length != ts.length || env.blockKind != .function) = true then pure none else
      if (vs.any fun | .Starred .. => true | _ => false) = true then pure none else
        if ((ts.filterMap (nameOnE env ((ts.head?.map (·.pos.line)).getD 0))).length != ts.length || (ts.filterMap (nameOnE env ((ts.head?.map (·.pos.line)).getD 0))).eraseDups.length != (ts.filterMap (nameOnE env ((ts.head?.map (·.pos.line)).getD 0))).length) = true then pure none else
          if vs.all (foldedForSure 8) = true then pure none else
            if vs.all (constantsAlone 8) = true then u else pure (some (ts.filterMap (nameOnE env ((ts.head?.map (·.pos.line)).getD 0))))) := ⟨_, rfl⟩
theorem starAny_eq (vs : List Expr) : (vs.any fun | .Starred .. => true | _ => false) = vs.any starE := by
  congr 1
theorem swNone_of {te ex : Expr} (O : Okc c X gl call XR W) (h : swNone c te ex = true) : swappedStores [te] ex X.env = pure none := by
  unfold swNone at h
  split at h
  · rename_i ts k1 p1 vs k2 p2
    obtain ⟨u, e⟩ := sw_form ts vs k1 k2 p1 p2 X.env
    rw [e, bk_eq O, nameOn_eq O, starAny_eq]
    by_cases h1 : (!(ts.length == 2 || ts.length == 3) || vs.length != ts.length || ScopeKind.function != ScopeKind.function) = true
    · rw [if_pos h1]
    rw [if_neg h1]
    by_cases h2 : vs.any starE = true
    · rw [if_pos h2]
    rw [if_neg h2]
    by_cases h3 : ((ts.filterMap (nameOn c ((ts.head?.map (·.pos.line)).getD 0))).length != ts.length || (ts.filterMap (nameOn c ((ts.head?.map (·.pos.line)).getD 0))).eraseDups.length != (ts.filterMap (nameOn c ((ts.head?.map (·.pos.line)).getD 0))).length) = true
    · rw [if_pos h3]
    rw [if_neg h3]
    by_cases h4 : vs.all (foldedForSure 8) = true
    · rw [if_pos h4]
    exfalso
    simp only [Bool.not_eq_true] at h1 h2 h3 h4
    have h1' : (!(ts.length == 2 || ts.length == 3) || vs.length != ts.length) = false := (Bool.or_eq_false_iff.mp h1).1
    rw [h1', h2, h4] at h
    simp only [Bool.false_or, Bool.or_false] at h
    rw [h3] at h
    cases h
  · cases h
  · rename_i h1 h2
    cases te <;> first | rfl | (cases ex <;> first | rfl | exact absurd rfl (h1 _ _ _ _ _ _ rfl) | exact (h1 _ _ _ _ _ _ rfl rfl).elim | exact (h2 _ _ _ _ _ rfl rfl).elim)
theorem plain_star {e : Expr} (h : plainE e = true) : starE e = false := by cases e <;> first | rfl | (simp [plainE] at h)
theorem sw_two {x y : Str} {px py pt p2 : Pos} {kt k2 : Nat} {a b : Expr} (O : Okc c X gl call XR W) (hx : NK.isLoc (c.lk x) = true) (hy : NK.isLoc (c.lk y) = true) (hl : (px.line == py.line) = true) (hn : ¬ x = y) (pa : plainE a = true) (pb : plainE b = true)
    (hf : (foldedForSure 8 a && foldedForSure 8 b) = false) (hc : (constantsAlone 8 a && constantsAlone 8 b) = false) : swappedStores [.Tuple [.Name x px, .Name y py] kt pt] (.Tuple [a, b] k2 p2) X.env = pure (some [x, y]) := by
  obtain ⟨u, e⟩ := sw_form [.Name x px, .Name y py] [a, b] kt k2 pt p2 X.env
  have en : [Expr.Name x px, .Name y py].filterMap (nameOn c ((([Expr.Name x px, .Name y py] : List Expr).head?.map (·.pos.line)).getD 0)) = [x, y] := by
    have e1 : nameOn c px.line (.Name x px) = some x := by simp [nameOn, nk_loc hx]
    have e2 : nameOn c px.line (.Name y py) = some y := by simp [nameOn, nk_loc hy, (beq_iff_eq.mp hl).symm]
    show [Expr.Name x px, .Name y py].filterMap (nameOn c px.line) = _
    simp [List.filterMap_cons, e1, e2]
  rw [e, bk_eq O, nameOn_eq O, starAny_eq, en]
  have ed : [x, y].eraseDups = [x, y] := by
    have : (y == x) = false := by simpa using fun z : y = x => hn z.symm
    simp [List.eraseDups_cons, this]
  rw [ed]
  simp only [List.any_cons, List.any_nil, List.all_cons, List.all_nil, plain_star pa, plain_star pb, Bool.and_true, hf, hc]
  rfl
theorem sw_three {x y z : Str} {px py pz pt p2 : Pos} {kt k2 : Nat} {a b d : Expr} (O : Okc c X gl call XR W) (hx : NK.isLoc (c.lk x) = true) (hy : NK.isLoc (c.lk y) = true) (hz : NK.isLoc (c.lk z) = true) (hl : (px.line == py.line) = true) (hl' : (px.line == pz.line) = true)
    (hn : ¬ x = y) (hn2 : ¬ x = z) (hn3 : ¬ y = z) (pa : plainE a = true) (pb : plainE b = true) (pd : plainE d = true)
    (hf : (foldedForSure 8 a && foldedForSure 8 b && foldedForSure 8 d) = false) (hc : (constantsAlone 8 a && constantsAlone 8 b && constantsAlone 8 d) = false) : swappedStores [.Tuple [.Name x px, .Name y py, .Name z pz] kt pt] (.Tuple [a, b, d] k2 p2) X.env = pure (some [x, y, z]) := by
  obtain ⟨u, e⟩ := sw_form [.Name x px, .Name y py, .Name z pz] [a, b, d] kt k2 pt p2 X.env
  have en : [Expr.Name x px, .Name y py, .Name z pz].filterMap (nameOn c ((([Expr.Name x px, .Name y py, .Name z pz] : List Expr).head?.map (·.pos.line)).getD 0)) = [x, y, z] := by
    have e1 : nameOn c px.line (.Name x px) = some x := by simp [nameOn, nk_loc hx]
    have e2 : nameOn c px.line (.Name y py) = some y := by simp [nameOn, nk_loc hy, (beq_iff_eq.mp hl).symm]
    have e3 : nameOn c px.line (.Name z pz) = some z := by simp [nameOn, nk_loc hz, (beq_iff_eq.mp hl').symm]
    show [Expr.Name x px, .Name y py, .Name z pz].filterMap (nameOn c px.line) = _
    simp [List.filterMap_cons, e1, e2, e3]
  rw [e, bk_eq O, nameOn_eq O, starAny_eq, en]
  have ed : [x, y, z].eraseDups = [x, y, z] := by
    have h1 : (y == x) = false := by simpa using fun q : y = x => hn q.symm
    have h2 : (z == x) = false := by simpa using fun q : z = x => hn2 q.symm
    have h3 : (z == y) = false := by simpa using fun q : z = y => hn3 q.symm
    simp [List.eraseDups_cons, h1, h2, h3]
  rw [ed]
  have hf' : (foldedForSure 8 a && (foldedForSure 8 b && foldedForSure 8 d)) = false := by rw [← Bool.and_assoc]; exact hf
  have hc' : (constantsAlone 8 a && (constantsAlone 8 b && constantsAlone 8 d)) = false := by rw [← Bool.and_assoc]; exact hc
  simp only [List.any_cons, List.any_nil, List.all_cons, List.all_nil, plain_star pa, plain_star pb, plain_star pd, Bool.and_true, hf', hc']
  rfl
theorem lcSwap_eq {x : Str} {px pv : Pos} {sc : Scope} {l : Nat} {elt : Expr} {gs : List Comprehension} (O : Okc c X gl call XR W) : swapsWith (.ListComp elt gs sc pv) (some (.Name x px)) l X.env = pure (c.lcSwap x px sc pv) := by
  unfold swapsWith
  dsimp only
  rw [bk_eq O, kindOf_eq O]
  have : (c.lk x == some NameKind.local) = NK.isLoc (c.lk x) := by
    cases c.lk x with
    | none => rfl
    | some k => cases k <;> rfl
  rw [this]
  rfl
theorem s_setG {fuel : Nat} {ok : Nat → Bool} {pos : Pos} {e : Ev.E} {ex te : Expr} {tg : Tg} (he : SE X gl call XR W e ex) (hg : PG X te (tG X.K ok tg)) (hn : swapsWithSole [te] ex pos.line X.env = pure false) (hp : plainE te = true) (hw : swappedStores [te] ex X.env = pure none) :
    PS X (.Assign [te] ex pos) (tS X.K gl call XR W fuel ok (.set tg e)) := impS (ps_asg he.v hg hn hw (by rw [assignCons hp]; rfl)) fun D σ H q => by
  obtain ⟨α, m, g, s⟩ := q
  refine ⟨α, m, g, sat_mono (osat_o s) (fun d ρ f x α1 H1 e1 e2 m1 st => ?_) fun _ _ z => z⟩
  subst e1 e2
  obtain ⟨ρ', e3, f⟩ := osat_opt f
  exact ⟨x, α1, ρ', rfl, m1, st.good, e3, fun σ' α' e m' g' sub kp => f σ' α' H1 e ⟨m', kp, st.asF.trans (W' := []) (stp_same g' sub) (by simp)⟩⟩
/-- a comprehension by its parts -/
theorem soundC {elt cond : Ev.E} {tg : Tg} {it : Ev.It} {has : Bool} {own : List Nat} {ee : Expr} {gs : List Comprehension} {sc : Scope} {pos : Pos} (O : Okc c X gl call XR W) (h : chkE c (.comp elt tg it cond has own) (.ListComp ee gs sc pos) = true) :
    ∃ te ie ifs, gs = [⟨te, ie, ifs, 0⟩] ∧ own = (ownOf c own).map (·.2) ∧ PI X te ie (tI X.K gl call XR W it) ∧ BlkOk X.N X.env.scope sc (ownOf c own) ∧ (BlkSE X gl call XR sc fun Y => PG Y te (tG X.K (fun i => own.contains i) tg)) ∧
      (BlkSE X gl call XR sc fun Y => PTs Y ifs (tT X.K gl call XR (fun _ _ _ _ => False) cond)) ∧ (BlkSE X gl call XR sc fun Y => PE Y ee (tV X.K gl call XR (fun _ _ _ _ => False) elt)) ∧ notSet ie = true := by
  simp only [chkE] at h
  split at h
  · rename_i ee' te ie ifs as sc' pos' e
    cases e
    simp only [Bool.and_eq_true] at h
    obtain ⟨⟨⟨⟨⟨⟨h1, h2⟩, h3⟩, h4⟩, h5⟩, h6⟩, h7⟩ := h
    have e1 := of_decide_eq_true h1
    subst e1
    refine ⟨te, ie, ifs, rfl, by unfold ownOf; rw [List.map_map]; exact (List.map_id _).symm, soundI it te ie O h2, blkOk_of O h4, fun s H C cl fp => soundG tg te (okc_blk O h4 s H C cl fp) h5, fun s H C cl fp => pts_of (has := has) ?_, fun s H C cl fp => (soundE elt ee (okc_blk O h4 s H C cl fp) h6).1.v, h3⟩
    split at h7
    · simp only [Bool.and_eq_true, Bool.not_eq_true'] at h7
      refine .inl ⟨h7.1, rfl, ?_⟩
      have h8 := h7.2
      split at h8
      · rfl
      · cases h8
    · simp only [Bool.and_eq_true] at h7
      exact .inr ⟨h7.1.1, _, rfl, (soundE cond _ (okc_blk O h4 s H C cl fp) h7.2).1.t h7.1.2⟩
    · cases h7
  · cases h
theorem LS.two {es : Ev.Es} {a b : Expr} (h : LS X gl call XR W es [a, b]) : plainE a = true ∧ plainE b = true := by
  cases h with
  | cons _ p h => cases h with
    | cons _ q _ => exact ⟨p, q⟩
theorem LS.three {es : Ev.Es} {a b d : Expr} (h : LS X gl call XR W es [a, b, d]) : plainE a = true ∧ plainE b = true ∧ plainE d = true := by
  cases h with
  | cons _ p h => cases h with
    | cons _ q h => cases h with
      | cons _ r _ => exact ⟨p, q, r⟩
end
mutual
theorem soundS : ∀ (s : Ev.S) (st : Stmt) {c : Cc} {X : Cx} {gl : Nat → Option D} {call : Nat → List D → R D} {XR : XRel} {W : WX} {fuel : Nat} {ok : Nat → Bool}, Okc c X gl call XR W → chkS c s st = true → PS X st (tS X.K gl call XR W fuel ok s)
  | .set tg e, st, c, X, gl, call, XR, W, fuel, ok, O, h => by
    simp only [chkS] at h
    split at h
    · rename_i te ex pos
      simp only [Bool.and_eq_true] at h
      obtain ⟨⟨⟨h1, h2⟩, h3⟩, h4⟩ := h
      split at h4
      · rename_i ee gs sc pv
        split at h4
        · rename_i x px
          by_cases hs : c.lcSwap x px sc pv = true
          · rw [if_pos hs] at h4
            split at h4
            · rename_i i elt tg' it cond has own
              obtain ⟨te, ie, ifs, rfl, ho, hi, bk, hg, ht, he, hn⟩ := soundC O h1
              simp only [chkG] at h2
              have ⟨l1, l2, l3⟩ := loc_of O h2
              have hl : X.env.scope.names.lookup x = some .local := by
                rw [O.sc]
                unfold Cc.lcSwap at hs
                simp only [Bool.and_eq_true] at hs
                exact nk_loc hs.1.1
              exact s_setLc O.calm (by rw [O.N]; exact O.nd) ho l1 hl ((lcSwap_eq O).trans (by rw [hs])) hi bk hg ht he hn
            · cases h4
          · have hs' : c.lcSwap x px sc pv = false := by simpa using hs
            exact s_setG (soundE e _ O h1).1 (soundG tg _ O h2) ((show swapsWithSole [.Name x px] (.ListComp ee gs sc pv) pos.line X.env = swapsWith (.ListComp ee gs sc pv) (some (.Name x px)) pos.line X.env from rfl).trans ((lcSwap_eq O).trans (by rw [hs']))) h3 rfl
        · cases h4
      · rw [Bool.and_eq_true] at h4
        exact s_setG (soundE e _ O h1).1 (soundG tg _ O h2) (swS_false h4.1) h3 (swNone_of O h4.2)
    · cases h
  | .par is es, st, c, X, gl, call, XR, W, fuel, ok, O, h => by
    simp only [chkS] at h
    split at h
    · rename_i x px y py kt pt a b k2 p2 pos
      rw [Bool.and_eq_true] at h
      obtain ⟨h1, h2⟩ := h
      split at h2
      · rename_i i j
        simp only [Bool.and_eq_true, Bool.not_eq_true'] at h2
        obtain ⟨⟨⟨⟨⟨⟨⟨⟨a1, a2⟩, a3⟩, a4⟩, a5⟩, a6⟩, a7⟩, a8⟩, a9⟩ := h2
        have L := soundEs es _ O h1
        have ⟨l1, _, _⟩ := loc_of O a1
        have ⟨l2, _, _⟩ := loc_of O a2
        exact s_parS O.calm (by rw [O.N]; exact O.nd) l1 l2 (by simpa using a9) (by rw [O.sc]; exact nk_loc a3) (by rw [O.sc]; exact nk_loc a4) L.pe (sw_two O a3 a4 a5 (of_decide_eq_false a6) L.two.1 L.two.2 a7 a8)
      · cases h2
    · rename_i x px y py z pz kt pt a b d k2 p2 pos
      rw [Bool.and_eq_true] at h
      obtain ⟨h1, h2⟩ := h
      split at h2
      · rename_i i j l
        simp only [Bool.and_eq_true, Bool.not_eq_true'] at h2
        obtain ⟨⟨⟨⟨⟨⟨⟨⟨⟨⟨⟨⟨⟨⟨⟨a1, a2⟩, a2'⟩, a3⟩, a4⟩, a4'⟩, a5⟩, a5'⟩, a6⟩, a6'⟩, a6''⟩, a7⟩, a8⟩, a9⟩, a9'⟩, a9''⟩ := h2
        have L := soundEs es _ O h1
        have ⟨l1, _, _⟩ := loc_of O a1
        have ⟨l2, _, _⟩ := loc_of O a2
        have ⟨l3, _, _⟩ := loc_of O a2'
        exact s_parS3 O.calm (by rw [O.N]; exact O.nd) l1 l2 l3 (by simpa using a9) (by simpa using a9') (by simpa using a9'') (by rw [O.sc]; exact nk_loc a3) (by rw [O.sc]; exact nk_loc a4) (by rw [O.sc]; exact nk_loc a4') L.pe
          (sw_three O a3 a4 a4' a5 a5' (of_decide_eq_false a6) (of_decide_eq_false a6') (of_decide_eq_false a6'') L.three.1 L.three.2.1 L.three.2.2 a7 a8)
      · cases h2
    · cases h
  | .put p e, st, c, X, gl, call, XR, W, fuel, ok, O, h => by
    simp only [chkS] at h
    split at h
    · simp only [Bool.and_eq_true] at h
      obtain ⟨⟨⟨h1, h2⟩, h3⟩, h4⟩ := h
      split at h1
      · simp only [chkP] at h3
        split at h3
        · simp only [Bool.and_eq_true] at h3
          exact s_putS (soundE e _ O h2).1 (soundP _ _ O h3.1.1.1) (soundE _ _ O h3.1.1.2).1 h3.1.2 h3.2 h4
        · cases h3
      · cases h1
    · cases h
  | .putr x i e, st, c, X, gl, call, XR, W, fuel, ok, O, h => by
    simp only [chkS] at h
    split at h
    · simp only [Bool.and_eq_true] at h
      obtain ⟨⟨⟨⟨h1, h2⟩, h3⟩, h4⟩, h5⟩ := h
      obtain ⟨a, b, d, f⟩ := vis_of O h1
      exact s_putrS a b d f (soundE e _ O h2).1 (soundE i _ O h3).1 h4 h5
    · cases h
  | .aug i o e, st, c, X, gl, call, XR, W, fuel, ok, O, h => by
    simp only [chkS] at h
    split at h
    · simp only [Bool.and_eq_true] at h
      obtain ⟨⟨h1, h2⟩, h3⟩ := h
      obtain ⟨a, b, d⟩ := loc_of O h1
      refine s_augS ?_ (by rw [O.N]; exact O.nd) a b d (soundE e _ O h2).1
      split at h3
      · exact .inl ⟨rfl, rfl⟩
      · exact .inr ⟨rfl, rfl⟩
      · cases h3
    · cases h
  | .augp _ _ _, st, c, X, gl, call, XR, W, fuel, ok, O, h => by simp [chkS] at h
  | .ex e, st, c, X, gl, call, XR, W, fuel, ok, O, h => by
    simp only [chkS] at h
    split at h
    · rw [Bool.and_eq_true] at h
      exact s_exS (soundE e _ O h.1).1 h.2
    · cases h
  | .ret e, st, c, X, gl, call, XR, W, fuel, ok, O, h => by
    simp only [chkS] at h
    split at h
    · exact s_retS (soundE e _ O h).1
    · cases h
  | .ret0, st, c, X, gl, call, XR, W, fuel, ok, O, h => by
    simp only [chkS] at h
    split at h
    · exact s_ret0S
    · cases h
  | .ite t a b, st, c, X, gl, call, XR, W, fuel, ok, O, h => by
    simp only [chkS] at h
    split at h
    · simp only [Bool.and_eq_true] at h
      exact s_iteS ((soundE t _ O h.1.1.2).1.t h.1.1.1) (soundSs a _ O h.1.2) (soundSs b _ O h.2)
    · cases h
  | .loop tg it b, st, c, X, gl, call, XR, W, fuel, ok, O, h => by
    simp only [chkS] at h
    split at h
    · simp only [Bool.and_eq_true] at h
      exact s_forS O.ps O.calm (soundI it _ _ O h.1.1.2) (fun fz => soundG tg _ O h.1.1.1) (fun fz => soundSs b _ O h.2) h.1.2
    · cases h
  | .whl t b, st, c, X, gl, call, XR, W, fuel, ok, O, h => by
    simp only [chkS] at h
    split at h
    · simp only [Bool.and_eq_true] at h
      exact s_whlS O.ps ((soundE t _ O h.1.2).1.t h.1.1) (soundSs b _ O h.2)
    · cases h
  | .brk, st, c, X, gl, call, XR, W, fuel, ok, O, h => by
    simp only [chkS] at h
    split at h
    · exact s_brkS
    · cases h
  | .cnt, st, c, X, gl, call, XR, W, fuel, ok, O, h => by
    simp only [chkS] at h
    split at h
    · exact s_cntS
    · cases h
  | .pass, st, c, X, gl, call, XR, W, fuel, ok, O, h => by
    simp only [chkS] at h
    split at h
    · exact s_passS
    · cases h
theorem soundSs : ∀ (ss : Ev.Ss) (sts : List Stmt) {c : Cc} {X : Cx} {gl : Nat → Option D} {call : Nat → List D → R D} {XR : XRel} {W : WX} {fuel : Nat} {ok : Nat → Bool}, Okc c X gl call XR W → chkSs c ss sts = true → PSs X sts (tSs X.K gl call XR W fuel ok ss)
  | .nil, sts, c, X, gl, call, XR, W, fuel, ok, O, h => by
    simp only [chkSs] at h
    split at h
    · exact s_nilS
    · cases h
  | .cons s ss, sts, c, X, gl, call, XR, W, fuel, ok, O, h => by
    simp only [chkSs] at h
    split at h
    · rw [Bool.and_eq_true] at h
      exact s_consS (soundS s _ O h.1) (soundSs ss _ O h.2)
    · cases h
end
end Ev
end

section
set_option Elab.async false
set_option linter.all false
set_option maxRecDepth 100000
/-! EvC4: the whole text. -/
namespace Ev
open PySem L2 PyProof.Rows
/-! ### the end of a def -/
def finA : List A → List A → List A := List.zipWith fun a x => if a.er.imm = true then a else x
theorem finA_er : ∀ αs α' : List A, erL (finA αs α') = fin (erL αs) (erL α')
  | [], _ => rfl
  | _ :: _, [] => rfl
  | a :: αs, x :: α' => by
    have ih := finA_er αs α'
    show (if a.er.imm = true then a else x).er :: erL (finA αs α') = (if a.er.imm = true then a.er else x.er) :: fin (erL αs) (erL α')
    rw [ih]
    by_cases h : a.er.imm = true
    · rw [if_pos h, if_pos h]
    · rw [if_neg h, if_neg h]
theorem finA_foot : ∀ αs α' : List A, ∃ l, (footL α').Perm (footL (finA αs α') ++ l)
  | [], α' => ⟨footL α', by simp [finA, footL]⟩
  | _ :: _, [] => ⟨[], by simp [finA, footL]⟩
  | a :: αs, x :: α' => by
    obtain ⟨l, p⟩ := finA_foot αs α'
    have e : finA (a :: αs) (x :: α') = (if a.er.imm = true then a else x) :: finA αs α' := rfl
    rw [e]
    by_cases h : a.er.imm = true
    · rw [if_pos h]
      refine ⟨x.foot ++ l, ?_⟩
      rw [footL, footL, imm_foot a h, List.nil_append, ← List.append_assoc]
      refine (List.Perm.append_left _ p).trans ?_
      rw [← List.append_assoc]
      exact List.Perm.append_right _ List.perm_append_comm
    · rw [if_neg h]
      refine ⟨l, ?_⟩
      rw [footL, footL, List.append_assoc]
      exact List.Perm.append_left _ p
theorem finA_ok {K : PySem.W.Frag} {H : Hp} : ∀ αs α' : List A, (∀ a ∈ αs, a.er.imm = true → a.ok K H) → okL K H α' → okL K H (finA αs α')
  | [], _, _, _ => trivial
  | _ :: _, [], _, _ => trivial
  | a :: αs, x :: α', h, o => by
    have ih := finA_ok αs α' (fun a m => h a (List.mem_cons_of_mem _ m)) o.2
    refine ⟨?_, ih⟩
    by_cases hi : a.er.imm = true
    · simp only [hi, if_true]; exact h a List.mem_cons_self hi
    · simp only [hi]; exact o.1
theorem finA_bk : ∀ (αs α' : List A) (σ : L2.St), αs.length ≤ α'.length → (∀ (i : Nat) (a : A), αs[i]? = some a → a.er.imm = false → σ[i]? = some (some a.val)) → Mt σ α' → Bk (αs.map A.val) (finA αs α')
  | [], _, _, _, _, _ => .nil
  | _ :: _, [], _, h, _, _ => by simp at h
  | a :: αs, x :: α', σ, h, k, m => by
    cases σ with
    | nil => have := m.len; simp at this
    | cons s σ =>
      refine .cons ?_ (finA_bk αs α' σ (by simpa using h) (fun i b e1 e2 => k (i + 1) b e1 e2) ⟨by have := m.len; simpa using this, fun i b e => m.at_ (i + 1) b e⟩)
      show (if a.er.imm = true then a else x) = A.no ∨ (if a.er.imm = true then a else x).val = a.val
      by_cases hi : a.er.imm = true
      · rw [if_pos hi]; exact .inr rfl
      · rw [if_neg hi]
        have h1 := k 0 a rfl (by simpa using hi)
        rcases m.at_ 0 x rfl with q | q
        · exact .inl q
        · rw [h1] at q
          exact .inr (by simpa using q.symm)
/-- the facts of a text -/
structure Text where
  pg : Pg
  fns : List Str
  nss : List (List Str)
  gls : List Str
  tops : List Str
  kbs : List (Nat × List Str × List Nat)
  st : Nat → Stmt
def Text.cc (T : Text) (i : Nat) : Cc := ⟨T.nss.getD i [], (defScope (T.st i)).names, (defScope (T.st i)).kind, (defScope (T.st i)).names, T.fns, T.gls, T.tops, T.kbs⟩
def Text.ps (T : Text) (i : Nat) : List Str := (T.nss.getD i []).take ((T.pg.defs[i]?.map (·.ps)).getD 0)
/-- one def is as the compact code says -/
def Text.chk (T : Text) (i : Nat) : Bool := match T.pg.defs[i]? with
  | some df => chkSs (T.cc i) df.body (defBody (T.st i)) && decide (df.ns = (T.nss.getD i []).length) && decide (df.ps ≤ df.ns)
  | none => false
structure Facts (T : Text) (P : Program) (w : World) (K : PySem.W.Frag) (mg : Str → Option Value) : Prop where
  fns : ∀ (i : Nat) (x : Str), T.fns[i]? = some x → ∃ a fd, mg x = some (.ref a) ∧ Fun K x x (T.st i) a fd ∧ (∀ us : List Value, us.length = (T.ps i).length → bindArgs fd ⟨us, []⟩ = pure ((T.ps i).zip us)) ∧
    ∀ ks is, (i, ks, is) ∈ T.kbs → ∀ (ws : List Value), ws.length = ks.length → bindArgs fd ⟨[], ks.zip ws⟩ = pure ((T.ps i).zip (reord 0 is ws))
  sc : ∀ (i : Nat) (x : Str), T.fns[i]? = some x → FnScope (T.nss.getD i []) (T.ps i) (defScope (T.st i))
  ck : ∀ (i : Nat) (x : Str), T.fns[i]? = some x → T.chk i = true
  tops : ∀ x, (T.tops.any fun y => decide (y = x)) = true → mg x = none
  gls : ∀ (g : Nat) (x : Str), T.gls[g]? = some x → ∃ (a : A) (u : Value), mg x = some u ∧ RelV a.val u ∧ (∀ H, a.ok K H) ∧ a.er.imm = true ∧ T.pg.glb[g]? = some a.er
theorem spC_len {K : PySem.W.Frag} {XR : XRel} {pg : Pg} {fuel n f : Nat} {vs : List V} {H : Hp} {Q : VK} {E : XK} (h : spC K XR (run pg fuel n) f vs H Q E) : ∃ df, pg.defs[f]? = some df ∧ vs.length = df.ps := by
  obtain ⟨αs, rfl, g, s⟩ := h
  cases n with
  | zero => exact s.elim
  | succ n =>
    obtain ⟨df, e, s⟩ := sat_opt.mp s
    refine ⟨df, e, ?_⟩
    split at s
    · rename_i h; rw [List.length_map, ← erL_length, h.1]
    · exact s.elim
theorem footL_no (n : Nat) : footL (List.replicate n A.no) = [] := by
  induction n with
  | zero => rfl
  | succ n ih => rw [List.replicate_succ, footL, ih]; rfl
theorem erL_no (n : Nat) : erL (List.replicate n A.no) = List.replicate n D.no := by rw [erL_map, List.map_replicate]; rfl
theorem sat_fin {K : PySem.W.Frag} {XR : XRel} {αs : List A} {H : Hp} {Q : VK} {E : XK} {N : List Str} {σ0 : L2.St} {n : Nat} {o : O} (g : Good K H αs) (m0 : Mt (L2.start N (αs.map A.val)) (αs ++ List.replicate n A.no)) (hσ : σ0 = L2.start N (αs.map A.val))
    (s : (o.fin (erL αs)).sat (fun d ds => ∀ x αs' H', x.er = d → erL αs' = ds → Bk (αs.map A.val) αs' → Stp K (wrL αs) αs H (x :: αs') H' → Q x.val H')
      (fun ex ds => ∀ cls dd αs' H', XR ex cls dd H' → erL αs' = ds → Bk (αs.map A.val) αs' → Stp K (wrL αs) αs H αs' H' → E cls dd H')) :
    O.sat K XR (fun cls d _ H => E cls d H) (okP (erL αs)) σ0 (αs ++ List.replicate n A.no) H { nx := fun _ H' => Q .non H', rt := Q } o := by
  subst hσ
  have ef : footL (αs ++ List.replicate n A.no) = footL αs := by rw [footL_append, footL_no, List.append_nil]
  have ew : wrL (αs ++ List.replicate n A.no) = wrL αs := by unfold wrL; rw [ef]
  -- what comes back
  have back : ∀ {Δ : List A} {σ' : L2.St} {α' : List A} {H' : Hp}, Mt σ' α' → KeepS (okP (erL αs)) (L2.start N (αs.map A.val)) σ' → Stp K (wrL (αs ++ List.replicate n A.no)) (αs ++ List.replicate n A.no) H (Δ ++ α') H' →
      Bk (αs.map A.val) (finA αs α') ∧ Stp K (wrL αs) αs H (Δ ++ finA αs α') H' := by
    intro Δ σ' α' H' m k st
    rw [ew] at st
    have st' : Stp K (wrL αs) αs H (Δ ++ α') H' := ⟨st.good, st.fr, fun p mp => by have := st.ft p mp; rw [ef] at this; exact this⟩
    refine ⟨finA_bk αs α' σ' ?_ (fun i a e1 e2 => ?_) m, st'.sub (okL_append.mpr ⟨(okL_append.mp st'.good.ok).1, finA_ok αs α' (fun a ma hi => ?_) (okL_append.mp st'.good.ok).2⟩) ?_⟩
    · have h1 := m.len
      rw [k.1, m0.len, List.length_append] at h1
      omega
    · rw [k.2 i (by unfold okP; rw [erL_map, List.getElem?_map, e1]; exact e2)]
      have hl : i < αs.length := (List.getElem?_eq_some_iff.mp e1).1
      unfold L2.start
      rw [List.getElem?_append_left (by simpa using hl), List.getElem?_map, List.getElem?_map, e1]; rfl
    · exact ok_fr st'.fr g.wr a (okL_iff.mp g.ok a ma) (by rw [imm_foot a hi]; simp)
    · obtain ⟨l, p⟩ := finA_foot αs α'
      refine ⟨l, ?_⟩
      rw [footL_append, footL_append, List.append_assoc]
      exact List.Perm.append_left _ p
  cases o with
  | nx ρ =>
    intro σ' α' H' e go
    subst e
    obtain ⟨b, st⟩ := back (Δ := []) go.m go.kp go.st
    exact s .non (finA αs α') H' rfl (finA_er αs α') b (st.imm (w := .non) trivial rfl)
  | bk ρ => exact s.elim
  | ct ρ => exact s.elim
  | rt d ρ =>
    intro x σ' α' H' e1 e m k st
    subst e
    obtain ⟨b, st⟩ := back (Δ := [x]) m k st
    exact s x (finA αs α') H' e1 (finA_er αs α') b st
  | rz x ρ =>
    intro cls dd σ' α' H' xr e go
    subst e
    obtain ⟨b, st⟩ := back (Δ := []) go.m go.kp go.st
    exact s cls dd (finA αs α') H' xr (finA_er αs α') b st
  | st => exact s.elim
theorem okc_fn {T : Text} {P : Program} {w : World} {K : PySem.W.Frag} {mg : Str → Option Value} {base : Heap} {XR : XRel} {fuel n i : Nat} {x : Str} (F : Facts T P w K mg) (hi : T.fns[i]? = some x)
    (ih : ∀ (j : Nat) (y : Str) (a : Addr) (fd : FuncData), T.fns[j]? = some y → mg y = some (.ref a) → Fun K y y (T.st j) a fd → FnOk P w K mg base (L2.CX P w) n a fd (T.ps j) (spC K XR (run T.pg fuel n) j))
    {f : Addr} {cdv : Value} {A : Around} {outer : List PySem.Env} {s : Shared} {H : Hp} {E : XK} (hr : Room n (A.deeper (envOfC x (defScope (T.st i)) s.heap.objs.size f cdv))) :
    Okc (T.cc i) (cxOf (L2.CX P w) P w K mg base (T.nss.getD i []) x (defScope (T.st i)) f cdv A outer s H E) (fun g => T.pg.glb[g]?) (run T.pg fuel n) XR (fun cls d _ H => E cls d H) where
  N := rfl
  nd := (F.sc i x hi).nd
  sc := rfl
  kind := rfl
  kf := (F.sc i x hi).kind
  fnc := fun _ _ => rfl
  calm := rfl
  units := hr.units
  tk := takes_of rfl rfl rfl rfl
  ps := passes_of rfl
  tops := F.tops
  fns := fun j y hj => by
    obtain ⟨a, fd, h1, h2, h3, _⟩ := F.fns j y hj
    exact ⟨n, a, fd, T.ps j, h1, h2.kp, .all h3, ih j y a fd hj h1 h2, hr⟩
  kbs := fun j y ks is hj hk => by
    obtain ⟨a, fd, h1, h2, h3, h4⟩ := F.fns j y hj
    exact ⟨n, a, fd, T.ps j, h1, h2.kp, fun s ws _ hl => .of_eq (h4 ks is hk ws hl), ih j y a fd hj h1 h2, hr⟩
  gls := F.gls
theorem prog_ok {T : Text} {P : Program} {w : World} {K : PySem.W.Frag} {mg : Str → Option Value} {base : Heap} {XR : XRel} {fuel : Nat} (F : Facts T P w K mg) :
    ∀ (n : Nat) (i : Nat) (x : Str) (a : Addr) (fd : FuncData), T.fns[i]? = some x → mg x = some (.ref a) → Fun K x x (T.st i) a fd → FnOk P w K mg base (L2.CX P w) n a fd (T.ps i) (spC K XR (run T.pg fuel n) i)
  | 0, i, x, a, fd, hi, hm, hf => ⟨fun vs H Q E h => by obtain ⟨_, _, _, h⟩ := h; exact h.elim, fun A outer s H args us vs Q E _ _ _ _ h => by obtain ⟨_, _, _, h⟩ := h; exact h.elim⟩
  | n + 1, i, x, a, fd, hi, hm, hf => by
    have ih := prog_ok (base := base) (XR := XR) (fuel := fuel) F n
    have ck := F.ck i x hi
    have S := F.sc i x hi
    unfold Text.chk at ck
    split at ck
    · rename_i df hdf
      simp only [Bool.and_eq_true] at ck
      obtain ⟨⟨ck, hns⟩, hps⟩ := ck
      have hns := of_decide_eq_true hns
      have hps := of_decide_eq_true hps
      have eps : (T.ps i).length = df.ps := by
        unfold Text.ps
        rw [hdf, List.length_take]
        show min df.ps _ = df.ps
        omega
      refine hf.okX S (fun vs H Q E h => ?_) fun cdv Ar outer s H vs Q E hr hsp => ?_
      · obtain ⟨df', e, hl⟩ := spC_len h
        rw [hdf] at e
        cases e
        rw [hl, eps]
      · obtain ⟨αs, rfl, g, s0⟩ := hsp
        obtain ⟨df', e, s1⟩ := sat_opt.mp s0
        rw [hdf] at e
        cases e
        split at s1
        · rename_i hl
          have hlA : αs.length = df.ps := by rw [← erL_length, hl.1]
          refine ⟨_, soundSs (fuel := fuel) (ok := okP (erL αs)) df.body _ (okc_fn F hi ih hr) ck, ?_⟩
          have em : erL (αs ++ List.replicate (df.ns - df.ps) A.no) = erL αs ++ List.replicate (df.ns - df.ps) D.no := by rw [erL_append, erL_no]
          have m0 : Mt (L2.start (T.nss.getD i []) (αs.map A.val)) (αs ++ List.replicate (df.ns - df.ps) A.no) := by
            refine ⟨by unfold L2.start; simp only [List.length_append, List.length_map, List.length_replicate]; omega, fun j z hz => ?_⟩
            by_cases hj : j < αs.length
            · rw [List.getElem?_append_left hj] at hz
              refine .inr ?_
              unfold L2.start
              rw [List.getElem?_append_left (by simpa using hj), List.getElem?_map, List.getElem?_map, hz]; rfl
            · rw [List.getElem?_append_right (by omega)] at hz
              have := List.mem_of_getElem? hz
              exact .inl (List.eq_of_mem_replicate this)
          refine ⟨αs ++ List.replicate (df.ns - df.ps) A.no, m0, ⟨okL_append.mpr ⟨g.ok, okL_iff.mpr fun y my => by rw [List.eq_of_mem_replicate my]; trivial⟩, by rw [footL_append, footL_no, List.append_nil]; exact g.nd⟩, ?_⟩
          rw [← em] at s1
          exact sat_fin g m0 rfl s1
        · exact s1.elim
    · cases ck
end Ev
end

section
set_option Elab.async false
set_option linter.all false
set_option maxRecDepth 100000
/-! EvC5: the law's head. -/
namespace Ev
open PySem L2 PyProof.Rows
theorem cx_none {P : Program} {w : World} {H : Hp} {s : Shared} {e : Value} {s' : Shared} (h : L2.CX P w [] H s (fun _ _ _ => False) e s') : False := by
  unfold L2.CX at h
  obtain ⟨_, _, _, _, _, _, _, _, _, _, _, _, h⟩ := h
  exact h
/-- the law of a text by its evaluator -/
theorem law_walk {l : PySem.W.OpenLaw} {q : Program} {loose : List Str} {XP : (Str → Option Value) → Heap → Prop} {YP : World → Heap → Prop} {d : DefRec} {K : Params → PySem.W.Frag} {x : Str} (T : Text) (fuel n il m : Nat)
    (hn : l.most = some m) (hm : m ≤ sizeLine) (hdf : d.params.defaults = []) (hr : Room n callerA) (hil : T.fns[il]? = some d.name) (hps : T.ps il = [x])
    (hY : ∀ (w : World) (h : Heap), YP w h → (K w.params).In h)
    (F : ∀ (w : World) (mg : Str → Option Value) (fa : Addr) (h : Heap), (K w.params).In h → h.Ns mainGlobals mg → mg d.name = some (.ref fa) → Facts T l.prog w (K w.params) mg)
    (law : ∀ (k : Bool) (ns : List Int), ns.length ≤ m → ∃ ds, run T.pg fuel n il [.rol k (ns.map D.int)] = .ok (.bl true) ds) :
    PySem.W.WalkO q loose XP YP l.row.toRowW d [] (fun f vs => PySem.call f vs) := by
  refine L2.walk_of (n := m) (k := n) (x := x) (CX := fun w => L2.CX l.prog w) (sp := fun w => spC (K w.params) (fun _ _ _ _ => False) (run T.pg fuel n) il) hn hm hdf hr hY (fun w mg fa h KX G hmg => ?_) (fun w H a ns hl _ hS => ?_) fun _ _ _ _ _ z => cx_none z
  · have FF := F w mg fa h KX G hmg
    obtain ⟨a, fd, h1, h2, h3, _⟩ := FF.fns il d.name hil
    have e := hmg.symm.trans h1
    cases e
    refine ⟨fd, fun s u => .of_eq ?_, fun base _ _ => ?_⟩
    · have := h3 [u] (by rw [hps]; rfl)
      rw [hps] at this
      exact this
    · have := prog_ok (base := base) (XR := fun _ _ _ _ => False) (fuel := fuel) FF n il d.name fa fd hil hmg h2
      rw [hps] at this
      exact this
  · have im : ∀ ns : List Int, D.immL (erL (ns.map A.int)) = true := fun ns => by
      rw [immL_iff, erL_map]
      intro z hz
      simp only [List.map_map, List.mem_map] at hz
      obtain ⟨i, _, rfl⟩ := hz
      rfl
    have ev : (ns.map A.int).map A.val = ns.map V.int := by rw [List.map_map]; rfl
    have ee : erL (ns.map A.int) = ns.map D.int := by rw [erL_map, List.map_map]; rfl
    have ln : (ns.map A.int).length ≤ line := by rw [List.length_map, line_eq]; exact Nat.le_trans hl hm
    have ok0 : okL (K w.params) H (ns.map A.int) := okL_iff.mpr fun y my => by
      obtain ⟨i, _, rfl⟩ := List.mem_map.mp my
      trivial
    rcases hS with hS | hS
    · refine ⟨[.rol a (ns.map A.int)], rfl, ⟨⟨⟨by rw [ev]; exact hS, ln, ok0, im ns⟩, trivial⟩, by simp [footL, A.foot]⟩, ?_⟩
      obtain ⟨ds, e⟩ := law false ns hl
      have e' : run T.pg fuel n il (erL [.rol a (ns.map A.int)]) = .ok (.bl true) ds := by rw [← e]; simp only [erL, A.er, ee]
      show (run T.pg fuel n il (erL [.rol a (ns.map A.int)])).sat _ _
      rw [e']
      intro y αs' H' e1 _ _ _
      rw [er_bl e1]; rfl
    · refine ⟨[.kol a (ns.map A.int)], rfl, ⟨⟨⟨by rw [ev]; exact hS, ln, ok0, im ns⟩, trivial⟩, by simp [footL, A.foot]⟩, ?_⟩
      obtain ⟨ds, e⟩ := law true ns hl
      have e' : run T.pg fuel n il (erL [.kol a (ns.map A.int)]) = .ok (.bl true) ds := by rw [← e]; simp only [erL, A.er, ee]
      show (run T.pg fuel n il (erL [.kol a (ns.map A.int)])).sat _ _
      rw [e']
      intro y αs' H' e1 _ _ _
      rw [er_bl e1]; rfl
/-- what the head's fragment tells of a def -/
def DefFact (T : Text) (K : PySem.W.Frag) (i : Nat) (x : Str) : Prop := ∃ (f : Addr) (oc : Value) (od an : Option Addr) (sl : Array (Option Value)) (kV dc pm cd ct : Value),
  PySem.W.nsIn K mainGlobals x = some (some (.ref f)) ∧ K.lookup f = some ⟨oc, od, .func (PySem.W.fnOf x x (defArgs (T.st i)) (defBody (T.st i)) (defScope (T.st i)) .none kV dc pm an cd ct), sl⟩ ∧ PySem.W.codeIn K cd x = true ∧ PySem.W.keepIn K (.ref f) = true
theorem DefFact.mk {T : Text} {K : PySem.W.Frag} {i : Nat} {x : Str} {f : Addr} {oc : Value} {od an : Option Addr} {sl : Array (Option Value)} {kV dc pm cd ct : Value}
    (h1 : PySem.W.nsIn K mainGlobals x = some (some (.ref f))) (h2 : K.lookup f = some ⟨oc, od, .func (PySem.W.fnOf x x (defArgs (T.st i)) (defBody (T.st i)) (defScope (T.st i)) .none kV dc pm an cd ct), sl⟩) (h3 : PySem.W.codeIn K cd x = true) (h4 : PySem.W.keepIn K (.ref f) = true) : DefFact T K i x :=
  ⟨f, oc, od, an, sl, kV, dc, pm, cd, ct, h1, h2, h3, h4⟩
/-- how a def binds -/
def BindFact (T : Text) (i : Nat) (x : Str) : Prop := ∀ (kV dc pm cd ct : Value) (an : Option Addr) (us : List Value), us.length = (T.ps i).length → bindArgs (PySem.W.fnOf x x (defArgs (T.st i)) (defBody (T.st i)) (defScope (T.st i)) .none kV dc pm an cd ct) ⟨us, []⟩ = pure ((T.ps i).zip us)
/-- .. by keywords -/
def KbFact (T : Text) (q : Nat × List Str × List Nat) : Prop := ∀ x, T.fns[q.1]? = some x → ∀ (kV dc pm cd ct : Value) (an : Option Addr) (ws : List Value), ws.length = q.2.1.length →
  bindArgs (PySem.W.fnOf x x (defArgs (T.st q.1)) (defBody (T.st q.1)) (defScope (T.st q.1)) .none kV dc pm an cd ct) ⟨[], q.2.1.zip ws⟩ = pure ((T.ps q.1).zip (reord 0 q.2.2 ws))
def ScFact (T : Text) (i : Nat) (_ : Str) : Prop := FnScope (T.nss.getD i []) (T.ps i) (defScope (T.st i))
def CkFact (T : Text) (i : Nat) (_ : Str) : Prop := T.chk i = true
def GlFact (T : Text) (K : PySem.W.Frag) (g : Nat) (x : Str) : Prop := ∃ (a : A) (u : Value), PySem.W.nsIn K mainGlobals x = some (some u) ∧ RelV a.val u ∧ (∀ H, a.ok K H) ∧ a.er.imm = true ∧ T.pg.glb[g]? = some a.er
theorem facts_mk {T : Text} {P : Program} {w : World} {K : PySem.W.Frag} {h : Heap} {mg : Str → Option Value} (X : K.In h) (G : h.Ns mainGlobals mg)
    (df : ∀ (i : Nat) (x : Str), T.fns[i]? = some x → DefFact T K i x) (bf : ∀ (i : Nat) (x : Str), T.fns[i]? = some x → BindFact T i x) (kb : ∀ q ∈ T.kbs, KbFact T q)
    (sc : ∀ (i : Nat) (x : Str), T.fns[i]? = some x → ScFact T i x) (ck : ∀ (i : Nat) (x : Str), T.fns[i]? = some x → CkFact T i x)
    (tops : ∀ x ∈ T.tops, PySem.W.nsIn K mainGlobals x = some none)
    (gls : ∀ (g : Nat) (x : Str), T.gls[g]? = some x → GlFact T K g x) : Facts T P w K mg where
  fns := fun i x hi => by
    obtain ⟨f, oc, od, an, sl, kV, dc, pm, cd, ct, h1, h2, h3, h4⟩ := df i x hi
    exact ⟨f, _, PySem.W.mg_of X G h1, fun_mk h2 h3 h4, fun us hu => bf i x hi kV dc pm cd ct an us hu, fun ks is hm ws hw => kb (i, ks, is) hm x hi kV dc pm cd ct an ws hw⟩
  sc := sc
  ck := ck
  tops := fun x hx => by
    obtain ⟨y, my, e⟩ := List.any_eq_true.mp hx
    have e := of_decide_eq_true e
    subst e
    exact PySem.W.mg_none_of X G (tops y my)
  gls := fun g x hg => by
    obtain ⟨a, u, h1, h2, h3, h4, h5⟩ := gls g x hg
    exact ⟨a, u, PySem.W.mg_of X G h1, h2, h3, h4, h5⟩
/-- over a list's places -/
theorem each {α : Type} {Pr : Nat → α → Prop} : ∀ (l : List α) (k : Nat), (∀ (i : Nat) (x : α), l[i]? = some x → Pr (k + i) x) ↔ (match l with | [] => True | y :: r => Pr k y ∧ ∀ (i : Nat) (x : α), r[i]? = some x → Pr (k + 1 + i) x)
  | [], k => by simp
  | y :: r, k => by
    constructor
    · intro h
      refine ⟨h 0 y rfl, fun i x e => ?_⟩
      have := h (i + 1) x e
      rwa [show k + 1 + i = k + (i + 1) by omega]
    · rintro ⟨h1, h2⟩ i x e
      cases i with
      | zero => cases e; exact h1
      | succ i =>
        have := h2 i x e
        rwa [show k + (i + 1) = k + 1 + i by omega]
theorem each_nil {α : Type} {Pr : Nat → α → Prop} {k : Nat} : ∀ (i : Nat) (x : α), ([] : List α)[i]? = some x → Pr (k + i) x := fun i x h => by simp at h
theorem each_cons {α : Type} {Pr : Nat → α → Prop} {k : Nat} {y : α} {r : List α} (h1 : Pr k y) (h2 : ∀ (i : Nat) (x : α), r[i]? = some x → Pr (k + 1 + i) x) : ∀ (i : Nat) (x : α), (y :: r)[i]? = some x → Pr (k + i) x := (each (y :: r) k).mpr ⟨h1, h2⟩
theorem each_0 {α : Type} {Pr : Nat → α → Prop} {l : List α} (h : ∀ (i : Nat) (x : α), l[i]? = some x → Pr (0 + i) x) : ∀ (i : Nat) (x : α), l[i]? = some x → Pr i x := fun i x e => by have := h i x e; rwa [Nat.zero_add] at this
end Ev
end

section
set_option linter.all false
set_option maxRecDepth 100000
/-! EvM: reasoning about runs of the evaluator. -/
namespace Ev
theorem compL_eq {turn : D → Env → R (Option D)} {ρ : Env} {f : D → Option D} : ∀ (ds : List D), (∀ d ∈ ds, turn d ρ = .ok (f d) ρ) → compL turn ds ρ = .ok (ds.filterMap f) ρ
  | [], _ => rfl
  | d :: ds, h => by
    rw [compL, h d List.mem_cons_self]
    simp only [compL_eq ds fun x m => h x (List.mem_cons_of_mem _ m)]
    rw [List.filterMap_cons]
    cases f d <;> rfl
/-- a comprehension whose turns keep a word -/
theorem compL_inv {turn : D → Env → R (Option D)} (P : Nat → List D → Env → Prop) : ∀ (ds : List D) (ρ : Env) (i : Nat) (acc : List D), P i acc ρ →
    (∀ j d acc ρ, ds[j]? = some d → P (i + j) acc ρ → ∃ o ρ', turn d ρ = .ok o ρ' ∧ P (i + j + 1) (acc ++ o.toList) ρ') →
    ∃ xs ρ', compL turn ds ρ = .ok xs ρ' ∧ P (i + ds.length) (acc ++ xs) ρ'
  | [], ρ, i, acc, h0, _ => ⟨[], ρ, rfl, by simpa using h0⟩
  | d :: ds, ρ, i, acc, h0, h => by
    obtain ⟨o, ρ1, e1, p1⟩ := h 0 d acc ρ rfl h0
    obtain ⟨xs, ρ2, e2, p2⟩ := compL_inv P ds ρ1 (i + 1) _ p1 fun j d' acc' ρ' hj hp => by
      have := h (j + 1) d' acc' ρ' hj (by rwa [show i + (j + 1) = i + 1 + j by omega])
      rwa [show i + (j + 1) + 1 = i + 1 + j + 1 by omega] at this
    rw [show i + 1 + ds.length = i + (d :: ds).length by rw [List.length_cons]; omega] at p2
    refine ⟨o.toList ++ xs, ρ2, ?_, by rw [← List.append_assoc]; exact p2⟩
    rw [compL, e1]
    simp only [e2]
    cases o <;> rfl
/-- a for whose turns go on -/
theorem forL_inv {turn : D → Env → O} (P : Nat → Env → Prop) : ∀ (ds : List D) (ρ : Env) (i : Nat), P i ρ →
    (∀ j d ρ, ds[j]? = some d → P (i + j) ρ → ∃ ρ', (turn d ρ = .nx ρ' ∨ turn d ρ = .ct ρ') ∧ P (i + j + 1) ρ') → ∃ ρ', forL turn ds ρ = .nx ρ' ∧ P (i + ds.length) ρ'
  | [], ρ, i, h0, _ => ⟨ρ, rfl, h0⟩
  | d :: ds, ρ, i, h0, h => by
    obtain ⟨ρ1, e1, p1⟩ := h 0 d ρ rfl h0
    obtain ⟨ρ2, e2, p2⟩ := forL_inv P ds ρ1 (i + 1) p1 fun j d' ρ' hj hp => by
      have := h (j + 1) d' ρ' hj (by rwa [show i + (j + 1) = i + 1 + j by omega])
      rwa [show i + (j + 1) + 1 = i + 1 + j + 1 by omega] at this
    rw [show i + 1 + ds.length = i + (d :: ds).length by rw [List.length_cons]; omega] at p2
    refine ⟨ρ2, ?_, p2⟩
    rcases e1 with e1 | e1 <;> rw [forL, e1] <;> exact e2
/-! ### equations -/
section
variable {α β : Type} (gl : Nat → Option D) (call : Nat → List D → R D) (fuel : Nat)
@[simp] theorem e_bind_ok (a : α) (ρ : Env) (f : α → Env → R β) : (R.ok a ρ).bind f = f a ρ := id rfl
@[simp] theorem e_bind_rz (x : Ex) (ρ : Env) (f : α → Env → R β) : (R.rz x ρ).bind f = .rz x ρ := id rfl
@[simp] theorem e_o_ok (a : α) (ρ : Env) (f : α → Env → O) : (R.ok a ρ).o f = f a ρ := id rfl
@[simp] theorem e_opt (b : α) (f : α → R β) : opt (some b) f = f b := id rfl
@[simp] theorem e_optO (b : α) (f : α → O) : optO (some b) f = f b := id rfl
@[simp] theorem e_if (r : R α) : ifOk true r = r := id rfl
@[simp] theorem e_ifO (r : O) : ifO true r = r := id rfl
@[simp] theorem e_nx (ρ : Env) (f : Env → O) : (O.nx ρ).next f = f ρ := id rfl
@[simp] theorem e_rt (d : D) (ρ : Env) (f : Env → O) : (O.rt d ρ).next f = .rt d ρ := id rfl
@[simp] theorem e_ct (ρ : Env) (f : Env → O) : (O.ct ρ).next f = .ct ρ := id rfl
@[simp] theorem e_bk (ρ : Env) (f : Env → O) : (O.bk ρ).next f = .bk ρ := id rfl
@[simp] theorem e_isT (b : Bool) : D.isT (.bl b) = b := id rfl
@[simp] theorem e_trv (r : R D) : Md.v.tr r = r := id rfl
@[simp] theorem e_trb (r : R D) : Md.b.tr r = r := id rfl
@[simp] theorem e_trt (d : D) (ρ : Env) : Md.t.tr (.ok d ρ) = opt d.truth fun k => .ok (.bl k) ρ := id rfl
@[simp] theorem e_plcb (d : D) (ρ : Env) : Md.b.plc d ρ = .ok d ρ := id rfl
@[simp] theorem e_plcv (d : D) (ρ : Env) : Md.v.plc d ρ = ifOk d.imm (.ok d ρ) := id rfl
@[simp] theorem e_plct (d : D) (ρ : Env) : Md.t.plc d ρ = opt d.truth fun k => .ok (.bl k) ρ := id rfl
@[simp] theorem e_nil (ok : Nat → Bool) (ρ : Env) : evSs gl call fuel .nil ok ρ = .nx ρ := id rfl
@[simp] theorem e_cons (s : S) (ss : Ss) (ok : Nat → Bool) (ρ : Env) : evSs gl call fuel (.cons s ss) ok ρ = (evS gl call fuel s ok ρ).next fun ρ1 => evSs gl call fuel ss ok ρ1 := id rfl
@[simp] theorem t_bl (b : Bool) : D.truth (.bl b) = some b := id rfl
@[simp] theorem t_int (i : Int) : D.truth (.int i) = some (i != 0) := id rfl
@[simp] theorem i_int (i : Int) : D.imm (.int i) = true := id rfl
@[simp] theorem i_bl (i : Bool) : D.imm (.bl i) = true := id rfl
@[simp] theorem i_non : D.imm .non = true := id rfl
@[simp] theorem i_str (s : PySem.Str) : D.imm (.str s) = true := id rfl
@[simp] theorem i_tup (xs : List D) : D.imm (.tup xs) = D.immL xs := id rfl
@[simp] theorem i_lst (xs : List D) : D.imm (.lst xs) = false := id rfl
@[simp] theorem i_nil : D.immL [] = true := id rfl
@[simp] theorem i_cons (x : D) (xs : List D) : D.immL (x :: xs) = (x.imm && D.immL xs) := id rfl
theorem immL_all : ∀ xs : List D, D.immL xs = xs.all D.imm
  | [] => rfl
  | x :: xs => by rw [i_cons, immL_all xs]; rfl
theorem immL_of {xs : List D} (h : ∀ x ∈ xs, x.imm = true) : D.immL xs = true := by rw [immL_all, List.all_eq_true]; exact h
@[simp] theorem immL_app (xs ys : List D) : D.immL (xs ++ ys) = (D.immL xs && D.immL ys) := by simp [immL_all]
end
section
variable {gl : Nat → Option D} {call : Nat → List D → R D} {fuel : Nat}
/-- the turn of a comprehension -/
def cturn (gl : Nat → Option D) (call : Nat → List D → R D) (elt : E) (tg : Tg) (cond : E) (own : List Nat) (d : D) (ρ' : Env) : R (Option D) :=
  opt (stT (fun i => own.contains i) tg d ρ') fun ρ2 => (evM gl call cond .t ρ2).bind fun k ρ3 => if k.isT = true then (evM gl call elt .v ρ3).bind fun x ρ4 => .ok (some x) (wipe ρ4 own) else .ok none (wipe ρ3 own)
theorem e_comp {elt cond : E} {tg : Tg} {it : It} {has : Bool} {own : List Nat} {ρ : Env} : evM gl call (.comp elt tg it cond has own) .v ρ = (evI gl call it ρ).bind fun q ρ1 => (compL (cturn gl call elt tg cond own) q.1 (wipe ρ1 own)).bind fun xs ρ5 => opt (thaw q.2 ρ5) fun ρ6 => .ok (.lst xs) ρ6 := id rfl
/-- a comprehension that only reads -/
theorem comp_ok {elt cond : E} {tg : Tg} {it : It} {has : Bool} {own : List Nat} {ρ ρ1 ρ2 : Env} {ds : List D} {fz : Option Nat} (f : D → Option D) (hi : evI gl call it ρ = .ok (ds, fz) ρ1)
    (ht : ∀ d ∈ ds, cturn gl call elt tg cond own d (wipe ρ1 own) = .ok (f d) (wipe ρ1 own)) (h2 : thaw fz (wipe ρ1 own) = some ρ2) : evM gl call (.comp elt tg it cond has own) .v ρ = .ok (.lst (ds.filterMap f)) ρ2 := by
  rw [e_comp, hi]
  simp only [e_bind_ok, compL_eq ds ht, h2, e_opt]
@[simp] theorem b_comp {elt cond : E} {tg : Tg} {it : It} {has : Bool} {own : List Nat} {ρ : Env} : evM gl call (.comp elt tg it cond has own) .b ρ = evM gl call (.comp elt tg it cond has own) .v ρ := id rfl
@[simp] theorem item_nat (xs : List D) (k : Nat) : D.item (.tup xs) (.int (k : Int)) = xs[k]? := by
  simp only [D.item, ixN]
  by_cases h : k < xs.length
  · simp [h]
  · simp [h]
@[simp] theorem item_natL (xs : List D) (k : Nat) : D.item (.lst xs) (.int (k : Int)) = xs[k]? := item_nat xs k
@[simp] theorem item_natR (b : Bool) (xs : List D) (k : Nat) : D.item (.rol b xs) (.int (k : Int)) = xs[k]? := item_nat xs k
@[simp] theorem item_L0 (xs : List D) : D.item (.lst xs) (.int 0) = xs[0]? := item_natL xs 0
@[simp] theorem item_T0 (xs : List D) : D.item (.tup xs) (.int 0) = xs[0]? := item_nat xs 0
@[simp] theorem item_L1 (xs : List D) : D.item (.lst xs) (.int 1) = xs[1]? := item_natL xs 1
@[simp] theorem item_T1 (xs : List D) : D.item (.tup xs) (.int 1) = xs[1]? := item_nat xs 1
@[simp] theorem item_L2 (xs : List D) : D.item (.lst xs) (.int 2) = xs[2]? := item_natL xs 2
@[simp] theorem item_T2 (xs : List D) : D.item (.tup xs) (.int 2) = xs[2]? := item_nat xs 2
@[simp] theorem item_L3 (xs : List D) : D.item (.lst xs) (.int 3) = xs[3]? := item_natL xs 3
@[simp] theorem item_T3 (xs : List D) : D.item (.tup xs) (.int 3) = xs[3]? := item_nat xs 3
@[simp] theorem item_L4 (xs : List D) : D.item (.lst xs) (.int 4) = xs[4]? := item_natL xs 4
@[simp] theorem item_T4 (xs : List D) : D.item (.tup xs) (.int 4) = xs[4]? := item_nat xs 4
@[simp] theorem item_L5 (xs : List D) : D.item (.lst xs) (.int 5) = xs[5]? := item_natL xs 5
@[simp] theorem item_T5 (xs : List D) : D.item (.tup xs) (.int 5) = xs[5]? := item_nat xs 5
@[simp] theorem item_L6 (xs : List D) : D.item (.lst xs) (.int 6) = xs[6]? := item_natL xs 6
@[simp] theorem item_T6 (xs : List D) : D.item (.tup xs) (.int 6) = xs[6]? := item_nat xs 6
theorem putAt_nat (v : D) (xs : List D) (k : Nat) : D.putAt v (.lst xs) [.int (k : Int)] = if k < xs.length then some (.lst (xs.set k v)) else none := by
  show (Ev.ixN xs.length (k : Int)).map (fun j => D.lst (xs.set j v)) = _
  by_cases h : k < xs.length
  · simp [ixN, h]
  · simp [ixN, h]
@[simp] theorem put_L0 (v : D) (xs : List D) : D.putAt v (.lst xs) [.int 0] = if 0 < xs.length then some (.lst (xs.set 0 v)) else none := putAt_nat v xs 0
@[simp] theorem put_L1 (v : D) (xs : List D) : D.putAt v (.lst xs) [.int 1] = if 1 < xs.length then some (.lst (xs.set 1 v)) else none := putAt_nat v xs 1
@[simp] theorem put_L2 (v : D) (xs : List D) : D.putAt v (.lst xs) [.int 2] = if 2 < xs.length then some (.lst (xs.set 2 v)) else none := putAt_nat v xs 2
@[simp] theorem put_L3 (v : D) (xs : List D) : D.putAt v (.lst xs) [.int 3] = if 3 < xs.length then some (.lst (xs.set 3 v)) else none := putAt_nat v xs 3
@[simp] theorem put_L4 (v : D) (xs : List D) : D.putAt v (.lst xs) [.int 4] = if 4 < xs.length then some (.lst (xs.set 4 v)) else none := putAt_nat v xs 4
theorem o_mul {i j : Int} (h : j.natAbs < 2 ^ 64) : Op2.run .mul (.int i) (.int j) = some (.int (i * j)) := by
  show (if i.natAbs < 2 ^ 64 ∨ j.natAbs < 2 ^ 64 then _ else _) = _
  rw [if_pos (.inr h)]
theorem o_mod {i j : Int} (h : j ≠ 0) : Op2.run .mod (.int i) (.int j) = some (.int (i.fmod j)) := by
  show (if j ≠ 0 then _ else _) = _
  rw [if_pos h]
theorem o_fdiv {i j : Int} (h : j ≠ 0) (h2 : j.natAbs < 1073741824) : Op2.run .fdiv (.int i) (.int j) = some (.int (i.fdiv j)) := by
  show (if j ≠ 0 ∧ j.natAbs < 1073741824 then _ else _) = _
  rw [if_pos ⟨h, h2⟩]
theorem item_mod {xs : List Int} (h : xs ≠ []) (t : Int) : ∃ c ∈ xs, D.item (.lst (xs.map .int)) (.int (t.fmod (xs.length : Int))) = some (.int c) := by
  have hp : 0 < (xs.length : Int) := by have := List.length_pos_iff.mpr h; omega
  obtain ⟨k, hk⟩ := Int.eq_ofNat_of_zero_le (Int.fmod_nonneg_of_pos t hp)
  have hl := Int.fmod_lt_of_pos t hp
  rw [hk] at hl ⊢
  have hkl : k < xs.length := by omega
  refine ⟨xs[k], List.getElem_mem hkl, ?_⟩
  rw [item_natL]
  simp [hkl]
@[simp] theorem len_tup (xs : List D) : Blt.run .len [.tup xs] = some (.int xs.length) := id rfl
@[simp] theorem len_lst (xs : List D) : Blt.run .len [.lst xs] = some (.int xs.length) := id rfl
@[simp] theorem len_rol (b : Bool) (xs : List D) : Blt.run .len [.rol b xs] = some (.int xs.length) := id rfl
@[simp] theorem tup_lst (xs : List D) : Blt.run .tuple [.lst xs] = if D.immL xs then some (.tup xs) else none := id rfl
@[simp] theorem int_int (i : Int) : Blt.run .int [.int i] = some (.int i) := id rfl
@[simp] theorem abs_int (i : Int) : Blt.run .abs [.int i] = some (.int (if i < 0 then -i else i)) := id rfl
@[simp] theorem max_two (i j : Int) : Blt.run .max [.int i, .int j] = some (.int (if j > i then j else i)) := id rfl
@[simp] theorem int?_int (i : Int) : D.int? (.int i) = some i := id rfl
@[simp] theorem c_lt (i j : Int) : Cmp.run .lt (.int i) (.int j) = some (decide (i < j)) := id rfl
@[simp] theorem c_le (i j : Int) : Cmp.run .le (.int i) (.int j) = some (decide (i ≤ j)) := id rfl
@[simp] theorem c_gt (i j : Int) : Cmp.run .gt (.int i) (.int j) = some (decide (j < i)) := id rfl
@[simp] theorem c_ge (i j : Int) : Cmp.run .ge (.int i) (.int j) = some (decide (j ≤ i)) := id rfl
@[simp] theorem c_eqi (i j : Int) : Cmp.run .eq (.int i) (.int j) = some (decide (i = j)) := id rfl
@[simp] theorem c_nei (i j : Int) : Cmp.run .ne (.int i) (.int j) = some (!decide (i = j)) := id rfl
@[simp] theorem c_isn (i : Int) : Cmp.run .is (.int i) .non = some false := id rfl
@[simp] theorem c_isnn : Cmp.run .is .non .non = some true := id rfl
@[simp] theorem c_nis (i : Int) : Cmp.run .isn (.int i) .non = some true := id rfl
@[simp] theorem c_nisn : Cmp.run .isn .non .non = some false := id rfl
@[simp] theorem o_add (i j : Int) : Op2.run .add (.int i) (.int j) = some (.int (i + j)) := id rfl
@[simp] theorem o_sub (i j : Int) : Op2.run .sub (.int i) (.int j) = some (.int (i - j)) := id rfl
theorem needs_q {d : D} {a : E} {q : Bool} (h : q = true) : needs d a q = true := by unfold needs; simp [h]
theorem needs_t {d : D} {a : E} {q : Bool} (h : a.temp = true) : needs d a q = true := by unfold needs; simp [h]
theorem needs_i {d : D} {a : E} {q : Bool} (h : d.imm = true) : needs d a q = true := by unfold needs; simp [h]
@[simp] theorem needs_true {d : D} {a : E} : needs d a true = true := needs_q rfl
@[simp] theorem q_var (i : Nat) : E.quiet (.var i) = true := id rfl
@[simp] theorem q_int (i : Int) : E.quiet (.int i) = true := id rfl
@[simp] theorem q_non : E.quiet .non = true := id rfl
@[simp] theorem q_bl (i : Bool) : E.quiet (.bl i) = true := id rfl
@[simp] theorem q_nil : Es.quiet .nil = true := id rfl
@[simp] theorem q_cons (e : E) (es : Es) : Es.quiet (.cons e es) = (e.quiet && es.quiet) := id rfl
@[simp] theorem q_idx (a b : E) : E.quiet (.idx a b) = (a.quiet && b.quiet) := id rfl
@[simp] theorem q_bin (o : Op2) (a b : E) : E.quiet (.bin o a b) = (a.quiet && b.quiet) := id rfl
@[simp] theorem q_cmp (o : Cmp) (a b : E) : E.quiet (.cmp o a b) = (a.quiet && b.quiet) := id rfl
@[simp] theorem q_blt (o : Blt) (es : Es) : E.quiet (.blt o es) = es.quiet := id rfl
@[simp] theorem q_lst (es : Es) : E.quiet (.lst es) = es.quiet := id rfl
@[simp] theorem q_tup (es : Es) : E.quiet (.tup es) = es.quiet := id rfl
@[simp] theorem q_neg (e : E) : E.quiet (.neg e) = e.quiet := id rfl
@[simp] theorem mv_lst (xs : List D) : D.movable (.lst xs) = true := id rfl
@[simp] theorem needs_comp {d : D} {elt cond : E} {tg : Tg} {it : It} {has : Bool} {own : List Nat} {q : Bool} : needs d (.comp elt tg it cond has own) q = true := needs_t rfl
@[simp] theorem needs_call {d : D} {f : Nat} {es : Es} {q : Bool} : needs d (.call f es) q = true := needs_t rfl
@[simp] theorem needs_bin {d : D} {o : Op2} {a b : E} {q : Bool} : needs d (.bin o a b) q = true := needs_t rfl
@[simp] theorem needs_slc {d : D} {a b c : E} {q : Bool} : needs d (.slc a b c) q = true := needs_t rfl
@[simp] theorem needs_tup {d : D} {es : Es} {q : Bool} : needs d (.tup es) q = true := needs_t rfl
@[simp] theorem needs_lst {d : D} {es : Es} {q : Bool} : needs d (.lst es) q = true := needs_t rfl
@[simp] theorem x_isi (a : E) (t : Ty) (m : Md) (ρ : Env) : evM gl call (.isi a t) m ρ = m.tr ((evM gl call a .b ρ).bind fun x ρ1 => opt (t.of x) fun b => .ok (.bl b) ρ1) := id rfl
@[simp] theorem ty_bool_int (i : Int) : Ty.of .bool (.int i) = some false := id rfl
@[simp] theorem ty_bool_bl (i : Bool) : Ty.of .bool (.bl i) = some true := id rfl
@[simp] theorem ty_bool_tup (i : List D) : Ty.of .bool (.tup i) = some false := id rfl
@[simp] theorem ty_tup_int (i : Int) : Ty.of .tuple (.int i) = some false := id rfl
@[simp] theorem ty_tup_bl (i : Bool) : Ty.of .tuple (.bl i) = some false := id rfl
@[simp] theorem ty_tup_tup (i : List D) : Ty.of .tuple (.tup i) = some true := id rfl
@[simp] theorem ty_int_int (i : Int) : Ty.of .int (.int i) = some true := id rfl
@[simp] theorem ty_int_bl (i : Bool) : Ty.of .int (.bl i) = some true := id rfl
@[simp] theorem ty_int_tup (i : List D) : Ty.of .int (.tup i) = some false := id rfl
@[simp] theorem c_ist (xs : List D) : Cmp.run .is (.tup xs) .non = some false := id rfl
@[simp] theorem c_isb (b : Bool) : Cmp.run .is (.bl b) .non = some false := id rfl
@[simp] theorem c_isnt (xs : List D) : Cmp.run .isn (.tup xs) .non = some true := id rfl
@[simp] theorem c_isnb (b : Bool) : Cmp.run .isn (.bl b) .non = some true := id rfl
@[simp] theorem c_eqb (a b : Bool) : Cmp.run .eq (.bl a) (.bl b) = some (a == b) := id rfl
/-! ### expressions -/
@[simp] theorem x_var (i : Nat) (m : Md) (ρ : Env) : evM gl call (.var i) m ρ = opt (rd ρ i) fun d => m.plc d ρ := id rfl
@[simp] theorem x_int (i : Int) (m : Md) (ρ : Env) : evM gl call (.int i) m ρ = m.tr (.ok (.int i) ρ) := id rfl
@[simp] theorem x_bl (i : Bool) (m : Md) (ρ : Env) : evM gl call (.bl i) m ρ = m.tr (.ok (.bl i) ρ) := id rfl
@[simp] theorem x_non (m : Md) (ρ : Env) : evM gl call .non m ρ = m.tr (.ok .non ρ) := id rfl
@[simp] theorem x_mov (i : Nat) (m : Md) (ρ : Env) : evM gl call (.mov i) m ρ = m.tr (opt (rd ρ i) fun d => if d.imm = true then .ok d ρ else ifOk d.movable (.ok d (ρ.set i .no))) := id rfl
@[simp] theorem x_bin (o : Op2) (a b : E) (m : Md) (ρ : Env) : evM gl call (.bin o a b) m ρ = m.tr ((evM gl call a .b ρ).bind fun x ρ1 => ifOk (needs x a b.quiet) <| (evM gl call b .b ρ1).bind fun y ρ2 => opt (o.run x y) fun z => .ok z ρ2) := id rfl
@[simp] theorem x_cmp (o : Cmp) (a b : E) (m : Md) (ρ : Env) : evM gl call (.cmp o a b) m ρ = m.tr ((evM gl call a .b ρ).bind fun x ρ1 => ifOk (needs x a b.quiet) <| (evM gl call b .b ρ1).bind fun y ρ2 => opt (o.run x y) fun z => .ok (.bl z) ρ2) := id rfl
@[simp] theorem x_neg (a : E) (m : Md) (ρ : Env) : evM gl call (.neg a) m ρ = m.tr ((evM gl call a .b ρ).bind fun x ρ1 => opt x.int? fun i => .ok (.int (-i)) ρ1) := id rfl
@[simp] theorem x_idx (a i : E) (m : Md) (ρ : Env) : evM gl call (.idx a i) m ρ = (evM gl call a .b ρ).bind fun x ρ1 => ifOk (needs x a i.quiet) <| (evM gl call i .v ρ1).bind fun k ρ2 => opt (x.item k) fun d => m.plc d ρ2 := id rfl
@[simp] theorem x_blt (b : Blt) (es : Es) (m : Md) (ρ : Env) : evM gl call (.blt b es) m ρ = m.tr ((evBs gl call es ρ).bind fun ds ρ1 => opt (b.run ds) fun d => .ok d ρ1) := id rfl
@[simp] theorem x_tup (es : Es) (m : Md) (ρ : Env) : evM gl call (.tup es) m ρ = m.tr ((evEs gl call es ρ).bind fun ds ρ1 => ifOk (fits ds.length) (.ok (.tup ds) ρ1)) := id rfl
@[simp] theorem x_lst (es : Es) (m : Md) (ρ : Env) : evM gl call (.lst es) m ρ = m.tr ((evEs gl call es ρ).bind fun ds ρ1 => ifOk (fits ds.length) (.ok (.lst ds) ρ1)) := id rfl
@[simp] theorem x_bsn (ρ : Env) : evBs gl call .nil ρ = .ok [] ρ := id rfl
@[simp] theorem x_bsc (e : E) (es : Es) (ρ : Env) : evBs gl call (.cons e es) ρ = (evM gl call e .b ρ).bind fun d ρ1 => ifOk (needs d e es.quiet) <| (evBs gl call es ρ1).bind fun ds ρ2 => .ok (d :: ds) ρ2 := id rfl
@[simp] theorem x_esn (ρ : Env) : evEs gl call .nil ρ = .ok [] ρ := id rfl
@[simp] theorem x_esc (e : E) (es : Es) (ρ : Env) : evEs gl call (.cons e es) ρ = (evM gl call e .v ρ).bind fun d ρ1 => (evEs gl call es ρ1).bind fun ds ρ2 => .ok (d :: ds) ρ2 := id rfl
@[simp] theorem x_rng1 (a : E) (ρ : Env) : evI gl call (.rng1 a) ρ = (evM gl call a .v ρ).bind fun x ρ1 => opt x.int? fun j => ifOk (rngOk j && fits j.toNat) (.ok (rngL 0 j, none) ρ1) := id rfl
@[simp] theorem x_froz (i : Nat) (ρ : Env) : evI gl call (.froz i) ρ = opt (rd ρ i) fun d => opt (items d) fun xs => if d.still = true then .ok (xs, none) ρ else .ok (xs, some i) (ρ.set i (.rol false xs)) := id rfl
@[simp] theorem x_ite (c a b : E) (m : Md) (ρ : Env) : evM gl call (.ite c a b) m ρ = m.tr ((evM gl call c .t ρ).bind fun k ρ1 => if k.isT = true then evM gl call a .v ρ1 else evM gl call b .v ρ1) := id rfl
@[simp] theorem x_and_t (a b : E) (ρ : Env) : evM gl call (.and a b) .t ρ = (evM gl call a .t ρ).bind fun k ρ1 => if k.isT = true then evM gl call b .t ρ1 else .ok (.bl false) ρ1 := id rfl
@[simp] theorem x_or_t (a b : E) (ρ : Env) : evM gl call (.or a b) .t ρ = (evM gl call a .t ρ).bind fun k ρ1 => if k.isT = true then .ok (.bl true) ρ1 else evM gl call b .t ρ1 := id rfl
@[simp] theorem x_not_t (a : E) (ρ : Env) : evM gl call (.not a) .t ρ = (evM gl call a .t ρ).bind fun k ρ1 => .ok (.bl (!k.isT)) ρ1 := id rfl
@[simp] theorem x_and_v (a b : E) (ρ : Env) : evM gl call (.and a b) .v ρ = (evM gl call a .v ρ).bind fun x ρ1 => opt x.truth fun k => if k = true then evM gl call b .v ρ1 else .ok x ρ1 := id rfl
@[simp] theorem x_or_v (a b : E) (ρ : Env) : evM gl call (.or a b) .v ρ = (evM gl call a .v ρ).bind fun x ρ1 => opt x.truth fun k => if k = true then .ok x ρ1 else evM gl call b .v ρ1 := id rfl
@[simp] theorem x_not_v (a : E) (ρ : Env) : evM gl call (.not a) .v ρ = (evM gl call a .b ρ).bind fun x ρ1 => opt x.truth fun k => .ok (.bl (!k)) ρ1 := id rfl
@[simp] theorem x_call (f : Nat) (es : Es) (m : Md) (ρ : Env) : evM gl call (.call f es) m ρ = m.tr ((evAs gl call es ρ).bind fun as ρ1 => callR call f as ρ1) := id rfl
@[simp] theorem x_asn (ρ : Env) : evAs gl call .nil ρ = .ok [] ρ := id rfl
@[simp] theorem x_asc (e : E) (es : Es) (ρ : Env) : evAs gl call (.cons e es) ρ = match e.lent? with
    | some i => opt (rd ρ i) fun _ => (evAs gl call es ρ).bind fun ds ρ2 => .ok ((some i, .no) :: ds) ρ2
    | none => (evM gl call e .v ρ).bind fun d ρ1 => (evAs gl call es ρ1).bind fun ds ρ2 => .ok ((none, d) :: ds) ρ2 := id rfl
@[simp] theorem l_lend (i : Nat) : E.lent? (.lend i) = some i := id rfl
@[simp] theorem l_var (i : Nat) : E.lent? (.var i) = none := id rfl
@[simp] theorem l_int (i : Int) : E.lent? (.int i) = none := id rfl
@[simp] theorem l_non : E.lent? .non = none := id rfl
@[simp] theorem l_bl (b : Bool) : E.lent? (.bl b) = none := id rfl
@[simp] theorem l_idx (a b : E) : E.lent? (.idx a b) = none := id rfl
@[simp] theorem l_bin (o : Op2) (a b : E) : E.lent? (.bin o a b) = none := id rfl
@[simp] theorem l_call (f : Nat) (es : Es) : E.lent? (.call f es) = none := id rfl
@[simp] theorem l_tup (es : Es) : E.lent? (.tup es) = none := id rfl
@[simp] theorem l_blt (b : Blt) (es : Es) : E.lent? (.blt b es) = none := id rfl
@[simp] theorem l_cmp (o : Cmp) (a b : E) : E.lent? (.cmp o a b) = none := id rfl
@[simp] theorem k_nil (ρ : Env) : takeL [] ρ = some ([], ρ) := id rfl
@[simp] theorem k_none (d : D) (r : List (Option Nat × D)) (ρ : Env) : takeL ((none, d) :: r) ρ = (takeL r ρ).map fun p => (d :: p.1, p.2) := id rfl
@[simp] theorem k_some (i : Nat) (x : D) (r : List (Option Nat × D)) (ρ : Env) : takeL ((some i, x) :: r) ρ = (rd ρ i).bind fun d => (takeL r (ρ.set i .no)).map fun p => (d :: p.1, p.2) := by
  show (match rd ρ i with | some d => _ | none => _) = _
  cases rd ρ i <;> rfl
@[simp] theorem g_nil (ρ : Env) : giveL [] [] ρ = ρ := id rfl
@[simp] theorem g_none (x d : D) (r : List (Option Nat × D)) (ds : List D) (ρ : Env) : giveL ((none, x) :: r) (d :: ds) ρ = giveL r ds ρ := id rfl
@[simp] theorem g_some (i : Nat) (x d : D) (r : List (Option Nat × D)) (ds : List D) (ρ : Env) : giveL ((some i, x) :: r) (d :: ds) ρ = (giveL r ds ρ).set i d := id rfl
@[simp] theorem callR_eq (f : Nat) (as : List (Option Nat × D)) (ρ1 : Env) : callR call f as ρ1 = opt (takeL as ρ1) fun q => match call f q.1 with
    | .ok d ds' => .ok d (giveL as ds' q.2)
    | .rz x ds' => .rz x (giveL as ds' q.2)
    | .st => .st := id rfl
@[simp] theorem x_mth (k : Mth) (p : P) (es : Es) (m : Md) (ρ : Env) : evM gl call (.mth k p es) m ρ = m.tr ((evP gl call p ρ).bind fun q _ => opt (rd ρ q.1) fun d0 => opt (d0.get q.2) fun c0 => opt c0.lst? fun _ => (evEs gl call es ρ).bind fun ds ρ2 =>
      opt (rd ρ2 q.1) fun d => opt (d.get q.2) fun c => opt c.lst? fun xs => opt (k.run xs ds) fun r =>
        opt (D.upd (fun _ => some (.lst r.2)) d q.2) fun d' => .ok r.1 (ρ2.set q.1 d')) := id rfl
@[simp] theorem p_root (i : Nat) (ρ : Env) : evP gl call (.root i) ρ = .ok (i, []) ρ := id rfl
@[simp] theorem p_at (p : P) (e : E) (ρ : Env) : evP gl call (.at p e) ρ = (evP gl call p ρ).bind fun q _ => opt (rd ρ q.1) fun d0 => opt (d0.get q.2) fun _ => (evM gl call e .v ρ).bind fun d _ => .ok (q.1, q.2 ++ [d]) ρ := id rfl
@[simp] theorem get_nil (d : D) : d.get [] = some d := by cases d <;> rfl
@[simp] theorem upd_nil (f : D → Option D) (d : D) : D.upd f d [] = f d := by cases d <;> rfl
@[simp] theorem lst?_lst (xs : List D) : D.lst? (.lst xs) = some xs := id rfl
@[simp] theorem run_append (xs : List D) (x : D) : Mth.run .append xs [x] = if xs.length < line then some (.non, xs ++ [x]) else none := id rfl
@[simp] theorem run_extend (xs ys : List D) : Mth.run .extend xs [.lst ys] = if xs.length + ys.length ≤ line ∧ D.immL ys = true then some (.non, xs ++ ys) else none := id rfl
@[simp] theorem u_loop (tg : Tg) (it : It) (body : Ss) (ok : Nat → Bool) (ρ : Env) : evS gl call fuel (.loop tg it body) ok ρ = (evI gl call it ρ).o fun q ρ1 => (forL (fun d ρ' => optO (stT (okBut ok q.2) tg d ρ') fun ρ2 => evSs gl call fuel body (okBut ok q.2) ρ2) q.1 ρ1).thaw q.2 := id rfl
@[simp] theorem u_set (tg : Tg) (e : E) (ok : Nat → Bool) (ρ : Env) : evS gl call fuel (.set tg e) ok ρ = (evM gl call e .v ρ).o fun d ρ1 => optO (stT ok tg d ρ1) .nx := id rfl
@[simp] theorem u_ite (c : E) (a b : Ss) (ok : Nat → Bool) (ρ : Env) : evS gl call fuel (.ite c a b) ok ρ = (evM gl call c .t ρ).o fun k ρ1 => if k.isT = true then evSs gl call fuel a ok ρ1 else evSs gl call fuel b ok ρ1 := id rfl
@[simp] theorem u_ret (e : E) (ok : Nat → Bool) (ρ : Env) : evS gl call fuel (.ret e) ok ρ = (evM gl call e .v ρ).o fun d ρ1 => .rt d ρ1 := id rfl
@[simp] theorem u_ex (e : E) (ok : Nat → Bool) (ρ : Env) : evS gl call fuel (.ex e) ok ρ = (evM gl call e .v ρ).o fun _ ρ1 => .nx ρ1 := id rfl
@[simp] theorem u_put (p : P) (e : E) (ok : Nat → Bool) (ρ : Env) : evS gl call fuel (.put p e) ok ρ = (evM gl call e .v ρ).o fun v ρ1 => (evP gl call p ρ1).o fun q _ => optO (rd ρ1 q.1) fun d => optO (D.putAt v d q.2) fun d' => .nx (ρ1.set q.1 d') := id rfl
@[simp] theorem thaw_nx (ρ : Env) : O.thaw none (.nx ρ) = .nx ρ := id rfl
@[simp] theorem thaw_rt (d : D) (ρ : Env) : O.thaw none (.rt d ρ) = .rt d ρ := id rfl
@[simp] theorem okBut_none (ok : Nat → Bool) : okBut ok none = ok := id rfl
@[simp] theorem st_nm (ok : Nat → Bool) (i : Nat) (d : D) (ρ : Env) : stT ok (.nm i) d ρ = if i < ρ.length ∧ ok i = true then some (ρ.set i d) else none := id rfl
@[simp] theorem rd_eq (ρ : Env) (i : Nat) : rd ρ i = (ρ[i]?).bind fun d => if d.isNo = true then none else some d := by
  unfold rd
  cases ρ[i]? with
  | none => rfl
  | some d => cases d <;> rfl
@[simp] theorem n_int (i : Int) : D.isNo (.int i) = false := id rfl
@[simp] theorem n_non : D.isNo .non = false := id rfl
@[simp] theorem n_bl (i : Bool) : D.isNo (.bl i) = false := id rfl
@[simp] theorem n_tup (i : List D) : D.isNo (.tup i) = false := id rfl
@[simp] theorem n_lst (i : List D) : D.isNo (.lst i) = false := id rfl
@[simp] theorem n_rol (b : Bool) (i : List D) : D.isNo (.rol b i) = false := id rfl
theorem small {n : Nat} (h : n ≤ 1000000) : n ≤ line := Nat.le_trans h (by decide)
theorem fits_of {n : Nat} (h : n ≤ 1000000) : fits n = true := fits_iff.mpr (small h)
@[simp] theorem fits_0 : fits 0 = true := fits_of (by omega)
@[simp] theorem fits_1 : fits 1 = true := fits_of (by omega)
@[simp] theorem fits_2 : fits 2 = true := fits_of (by omega)
@[simp] theorem fits_3 : fits 3 = true := fits_of (by omega)
@[simp] theorem fits_4 : fits 4 = true := fits_of (by omega)
@[simp] theorem fits_5 : fits 5 = true := fits_of (by omega)
@[simp] theorem fits_6 : fits 6 = true := fits_of (by omega)
@[simp] theorem fits_13 : fits 13 = true := fits_of (by omega)
theorem rngOk_of {i : Int} (h1 : -1000000 ≤ i) (h2 : i ≤ 1000000) : rngOk i = true := by unfold rngOk; simp; omega
end
def oD : Option Int → D
  | none => .non
  | some i => .int i
def tD (xs : List Int) : D := .tup (xs.map .int)
def tO (xs : List (Option Int)) : D := .tup (xs.map oD)
@[simp] theorem oD_no (o : Option Int) : (oD o).isNo = false := by cases o <;> rfl
@[simp] theorem oD_imm (o : Option Int) : (oD o).imm = true := by cases o <;> rfl
@[simp] theorem immL_ints (xs : List Int) : D.immL (xs.map .int) = true := immL_of fun x m => by obtain ⟨i, _, rfl⟩ := List.mem_map.mp m; rfl
@[simp] theorem immL_intc {α : Type} (f : α → Int) (xs : List α) : D.immL (xs.map (D.int ∘ f)) = true := by rw [← List.map_map]; exact immL_ints _
@[simp] theorem immL_oDc {α : Type} (f : α → Option Int) (xs : List α) : D.immL (xs.map (oD ∘ f)) = true := immL_of fun x m => by obtain ⟨i, _, rfl⟩ := List.mem_map.mp m; simp
@[simp] theorem immL_oD (xs : List (Option Int)) : D.immL (xs.map oD) = true := immL_of fun x m => by obtain ⟨i, _, rfl⟩ := List.mem_map.mp m; simp
/-- a range beside a list of that length -/
theorem rng_index {α β : Type} (l : List α) (g : α → Option β) (h : D → Option β) (e : ∀ (k : Nat) (x : α), l[k]? = some x → h (.int (k : Int)) = g x) : (rngL 0 l.length).filterMap h = l.filterMap g := by
  have gen : ∀ (l : List α) (off : Nat), (∀ (k : Nat) (x : α), l[k]? = some x → h (.int ((off + k : Nat) : Int)) = g x) → ((List.range l.length).map fun (k : Nat) => D.int ((off + k : Nat) : Int)).filterMap h = l.filterMap g := by
    intro l
    induction l with
    | nil => intro off _; rfl
    | cons x l ih =>
      intro off he
      rw [List.length_cons, List.range_succ_eq_map, List.map_cons, List.map_map, List.filterMap_cons, List.filterMap_cons]
      have h0 := he 0 x rfl
      have ih' := ih (off + 1) fun k y hy => by have := he (k + 1) y hy; rwa [show off + 1 + k = off + (k + 1) by omega]
      rw [h0]
      have e2 : (List.map ((fun (k : Nat) => D.int ((off + k : Nat) : Int)) ∘ Nat.succ) (List.range l.length)) = (List.range l.length).map fun (k : Nat) => D.int ((off + 1 + k : Nat) : Int) := by
        congr 1
        funext k
        show D.int _ = D.int _
        rw [show off + Nat.succ k = off + 1 + k by omega]
      rw [e2, ih']
  have := gen l 0 fun k x hx => by rw [Nat.zero_add]; exact e k x hx
  have e3 : (fun (k : Nat) => D.int (0 + (k : Int))) = fun (k : Nat) => D.int ((0 + k : Nat) : Int) := by funext k; simp
  have e4 : ((l.length : Int) - 0).toNat = l.length := by omega
  unfold rngL
  rw [e4, e3]
  exact this
theorem ints_map (xs : List Int) : D.ints (xs.map .int) = some xs := by
  induction xs with
  | nil => rfl
  | cons x xs ih => simp [D.ints, ih]
theorem max_ints (xs : List Int) : Blt.run .max [.lst (xs.map .int)] = (maxI xs).map .int := by
  show (D.ints (xs.map .int)).bind (fun ns => (maxI ns).map D.int) = _
  rw [ints_map]; rfl
theorem max_tup (xs : List Int) : Blt.run .max [.tup (xs.map .int)] = (maxI xs).map .int := by
  show (D.ints (xs.map .int)).bind (fun ns => (maxI ns).map D.int) = _
  rw [ints_map]; rfl
theorem min_ints (xs : List Int) : Blt.run .min [.lst (xs.map .int)] = (minI xs).map .int := by
  show (D.ints (xs.map .int)).bind (fun ns => (minI ns).map D.int) = _
  rw [ints_map]; rfl
theorem maxI_some {xs : List Int} (h : xs ≠ []) : ∃ v, maxI xs = some v := by
  cases xs with
  | nil => exact absurd rfl h
  | cons x xs => exact ⟨_, rfl⟩
theorem fold_max : ∀ (xs : List Int) (a : Int), a ≤ xs.foldl max a ∧ (∀ x ∈ xs, x ≤ xs.foldl max a) ∧ (xs.foldl max a = a ∨ xs.foldl max a ∈ xs)
  | [], a => ⟨Int.le_refl _, by simp, .inl rfl⟩
  | x :: xs, a => by
    obtain ⟨h1, h2, h3⟩ := fold_max xs (max a x)
    rw [List.foldl_cons]
    refine ⟨by omega, fun y m => ?_, ?_⟩
    · rcases List.mem_cons.mp m with rfl | m
      · omega
      · exact h2 y m
    · rcases h3 with h3 | h3
      · by_cases h : x ≤ a
        · left; rw [h3]; omega
        · right; rw [h3, show max a x = x by omega]; exact List.mem_cons_self
      · right; exact List.mem_cons_of_mem _ h3
theorem maxI_mem {xs : List Int} {v : Int} (h : maxI xs = some v) : v ∈ xs ∧ ∀ x ∈ xs, x ≤ v := by
  cases xs with
  | nil => cases h
  | cons x xs =>
    cases h
    obtain ⟨h1, h2, h3⟩ := fold_max xs x
    refine ⟨?_, fun y m => ?_⟩
    · rcases h3 with h3 | h3
      · rw [h3]; exact List.mem_cons_self
      · exact List.mem_cons_of_mem _ h3
    · rcases List.mem_cons.mp m with rfl | m
      · exact h1
      · exact h2 y m
theorem fold_min : ∀ (xs : List Int) (a : Int), xs.foldl min a ≤ a ∧ (∀ x ∈ xs, xs.foldl min a ≤ x) ∧ (xs.foldl min a = a ∨ xs.foldl min a ∈ xs)
  | [], a => ⟨Int.le_refl _, by simp, .inl rfl⟩
  | x :: xs, a => by
    obtain ⟨h1, h2, h3⟩ := fold_min xs (min a x)
    rw [List.foldl_cons]
    refine ⟨by omega, fun y m => ?_, ?_⟩
    · rcases List.mem_cons.mp m with rfl | m
      · omega
      · exact h2 y m
    · rcases h3 with h3 | h3
      · by_cases h : a ≤ x
        · left; rw [h3]; omega
        · right; rw [h3, show min a x = x by omega]; exact List.mem_cons_self
      · right; exact List.mem_cons_of_mem _ h3
theorem minI_mem {xs : List Int} {v : Int} (h : minI xs = some v) : v ∈ xs ∧ ∀ x ∈ xs, v ≤ x := by
  cases xs with
  | nil => cases h
  | cons x xs =>
    cases h
    obtain ⟨h1, h2, h3⟩ := fold_min xs x
    refine ⟨?_, fun y m => ?_⟩
    · rcases h3 with h3 | h3
      · rw [h3]; exact List.mem_cons_self
      · exact List.mem_cons_of_mem _ h3
    · rcases List.mem_cons.mp m with rfl | m
      · exact h1
      · exact h2 y m
/-- a for over the places of a list that only adds to a list; I by the turn -/
theorem forL_rng {α σ : Type} {turn : D → Env → O} (E : List D → σ → Env) (g : Nat → α → List D) (I : Nat → List D → Prop) : ∀ (l : List α) (off : Nat) (acc : List D) (x : σ), I off acc →
    (∀ (k : Nat) (a : α) (acc : List D) (x : σ), l[k]? = some a → I (off + k) acc → I (off + k + 1) (acc ++ g (off + k) a) ∧ ∃ x', (turn (.int ((off + k : Nat) : Int)) (E acc x) = .nx (E (acc ++ g (off + k) a) x') ∨ turn (.int ((off + k : Nat) : Int)) (E acc x) = .ct (E (acc ++ g (off + k) a) x'))) →
    ∃ x', forL turn ((List.range l.length).map fun (k : Nat) => D.int ((off + k : Nat) : Int)) (E acc x) = .nx (E (acc ++ ((l.zipIdx off).flatMap fun p => g p.2 p.1)) x')
  | [], off, acc, x, _, _ => ⟨x, by simp [forL]⟩
  | a :: l, off, acc, x, h0, h => by
    obtain ⟨i1, x1, h1⟩ := h 0 a acc x rfl h0
    obtain ⟨x2, h2⟩ := forL_rng E g I l (off + 1) (acc ++ g (off + 0) a) x1 i1 fun k b acc y hk hi => by
      have := h (k + 1) b acc y hk (by rwa [show off + (k + 1) = off + 1 + k by omega])
      rwa [show off + (k + 1) = off + 1 + k by omega] at this
    refine ⟨x2, ?_⟩
    rw [List.length_cons, List.range_succ_eq_map, List.map_cons, List.map_map]
    have e2 : (List.map ((fun (k : Nat) => D.int ((off + k : Nat) : Int)) ∘ Nat.succ) (List.range l.length)) = (List.range l.length).map fun (k : Nat) => D.int ((off + 1 + k : Nat) : Int) := by
      congr 1
      funext k
      show D.int _ = D.int _
      rw [show off + Nat.succ k = off + 1 + k by omega]
    rw [e2]
    simp only [List.zipIdx_cons, List.flatMap_cons]
    rw [← List.append_assoc]
    rcases h1 with h1 | h1 <;> (rw [forL, h1]; exact h2)
theorem rngL_0 (n : Nat) : rngL 0 (n : Int) = (List.range n).map fun (k : Nat) => D.int ((0 + k : Nat) : Int) := by
  have e3 : (fun (k : Nat) => D.int (0 + (k : Int))) = fun (k : Nat) => D.int ((0 + k : Nat) : Int) := by funext k; simp
  have e4 : ((n : Int) - 0).toNat = n := by omega
  unfold rngL
  rw [e4, e3]
theorem run_eq {p : Pg} {fuel n f : Nat} {ds : List D} {df : Def} (h : p.defs[f]? = some df) (hl : ds.length = df.ps) (h2 : df.ps ≤ df.ns) :
    run p fuel (n + 1) f ds = (evSs (fun g => p.glb[g]?) (run p fuel n) fuel df.body (okP ds) (ds ++ List.replicate (df.ns - df.ps) .no)).fin ds := by
  show opt p.defs[f]? _ = _
  rw [h, e_opt, if_pos ⟨hl, h2⟩]
end Ev
end

section
set_option Elab.async false
set_option linter.all false
set_option maxRecDepth 100000
namespace K
open PySem L2 Ev PyProof.Rows
/-- cause_time(cause, times) : 0=cause 1=times 2=told 3=at 4=time 5=delay -/
def c_cause_time : Ev.Ss := (.cons (.set (.nm 2) (.comp (.tup (.cons (.idx (.var 1) (.var 3)) (.cons (.idx (.var 0) (.var 3)) .nil))) (.nm 3) (.rng1 (.blt .len (.cons (.var 0) .nil))) (.cmp .ge (.idx (.var 0) (.var 3)) (.int 0)) true [3])) (.cons (.ite (.cmp .gt (.blt .len (.cons (.comp (.var 4) (.tup (.cons (.nm 4) (.cons (.nm 5) .nil))) (.froz 2) (.cmp .is (.var 4) .non) true [4, 5]) .nil)) (.int 0)) (.cons (.ret .non) .nil) .nil) (.cons (.ret (.blt .max (.cons (.comp (.bin .add (.var 4) (.var 5)) (.tup (.cons (.nm 4) (.cons (.nm 5) .nil))) (.froz 2) (.bl true) false [4, 5]) .nil))) .nil)))
def n_cause_time : List PySem.Str := [(PySem.Str.ofString "cause"), (PySem.Str.ofString "times"), (PySem.Str.ofString "told"), (PySem.Str.ofString "at"), (PySem.Str.ofString "time"), (PySem.Str.ofString "delay")]
def d_cause_time : Ev.Def := ⟨2, 6, c_cause_time⟩
@[reducible] def f_cause_time : Nat := 0
/-- is_ahead(one, other) : 0=one 1=other -/
def c_is_ahead : Ev.Ss := (.cons (.ret (.and (.cmp .isn (.var 0) .non) (.or (.cmp .is (.var 1) .non) (.cmp .lt (.var 0) (.var 1))))) .nil)
def n_is_ahead : List PySem.Str := [(PySem.Str.ofString "one"), (PySem.Str.ofString "other")]
def d_is_ahead : Ev.Def := ⟨2, 2, c_is_ahead⟩
@[reducible] def f_is_ahead : Nat := 1
/-- own_cause(wish) : 0=wish 1=found 2=times 3=due 4=time -/
def c_own_cause : Ev.Ss := (.cons (.set (.tup (.cons (.nm 2) (.cons (.nm 3) .nil))) (.mov 0)) (.cons (.ite (.cmp .is (.var 3) .non) (.cons (.ret .non) .nil) .nil) (.cons (.set (.nm 1) (.blt .tuple (.cons (.comp (.ite (.and (.cmp .isn (.var 4) .non) (.cmp .le (.var 4) (.var 3))) (.bin .sub (.var 3) (.var 4)) (.neg (.int 1))) (.nm 4) (.froz 2) (.bl true) false [4]) .nil))) (.cons (.ret (.ite (.cmp .ge (.blt .max (.cons (.var 1) .nil)) (.int 0)) (.mov 1) .non)) .nil))))
def n_own_cause : List PySem.Str := [(PySem.Str.ofString "wish"), (PySem.Str.ofString "found"), (PySem.Str.ofString "times"), (PySem.Str.ofString "due"), (PySem.Str.ofString "time")]
def d_own_cause : Ev.Def := ⟨1, 5, c_own_cause⟩
@[reducible] def f_own_cause : Nat := 2
/-- all_bars(many, wishes) : 0=many 1=wishes 2=found 3=at 4=cause 5=other -/
def c_all_bars : Ev.Ss := (.cons (.set (.nm 2) (.lst .nil)) (.cons (.loop (.nm 3) (.rng1 (.blt .len (.cons (.var 1) .nil))) (.cons (.set (.nm 4) (.call 2 (.cons (.idx (.var 1) (.var 3)) .nil))) (.cons (.ite (.cmp .is (.var 4) .non) (.cons (.ex (.mth .extend (.root 2) (.cons (.ite (.cmp .isn (.idx (.idx (.var 1) (.var 3)) (.int 1)) .non) (.lst (.cons (.tup (.cons (.mov 3) (.cons (.mov 3) .nil))) .nil)) (.lst .nil)) .nil))) .nil) (.cons (.loop (.nm 5) (.rng1 (.blt .len (.cons (.var 1) .nil))) (.cons (.ite (.call 1 (.cons (.call 0 (.cons (.lend 4) (.cons (.idx (.idx (.var 1) (.var 5)) (.int 0)) .nil))) (.cons (.idx (.idx (.var 1) (.var 5)) (.int 1)) .nil))) (.cons (.ex (.mth .append (.root 2) (.cons (.tup (.cons (.mov 3) (.cons (.mov 5) .nil))) .nil))) .nil) .nil) .nil)) .nil)) .nil))) (.cons (.ret (.blt .tuple (.cons (.var 2) .nil))) .nil)))
def n_all_bars : List PySem.Str := [(PySem.Str.ofString "many"), (PySem.Str.ofString "wishes"), (PySem.Str.ofString "found"), (PySem.Str.ofString "at"), (PySem.Str.ofString "cause"), (PySem.Str.ofString "other")]
def d_all_bars : Ev.Def := ⟨2, 6, c_all_bars⟩
@[reducible] def f_all_bars : Nat := 3
/-- bar_of(many, wishes) : 0=many 1=wishes 2=bars -/
def c_bar_of : Ev.Ss := (.cons (.set (.nm 2) (.call 3 (.cons (.lend 0) (.cons (.lend 1) .nil)))) (.cons (.ret (.ite (.cmp .gt (.blt .len (.cons (.var 2) .nil)) (.int 0)) (.idx (.var 2) (.int 0)) .non)) .nil))
def n_bar_of : List PySem.Str := [(PySem.Str.ofString "many"), (PySem.Str.ofString "wishes"), (PySem.Str.ofString "bars")]
def d_bar_of : Ev.Def := ⟨2, 3, c_bar_of⟩
@[reducible] def f_bar_of : Nat := 4
/-- can_meet(many, wishes) : 0=many 1=wishes -/
def c_can_meet : Ev.Ss := (.cons (.ret (.cmp .is (.call 4 (.cons (.lend 0) (.cons (.lend 1) .nil))) .non)) .nil)
def n_can_meet : List PySem.Str := [(PySem.Str.ofString "many"), (PySem.Str.ofString "wishes")]
def d_can_meet : Ev.Def := ⟨2, 2, c_can_meet⟩
@[reducible] def f_can_meet : Nat := 5
/-- _law_jar(script) : 0=script 1=greats 2=cells 3=cell -/
def c__law_jar : Ev.Ss := (.cons (.set (.nm 1) (.comp (.blt .abs (.cons (.var 3) .nil)) (.nm 3) (.froz 0) (.cmp .ge (.blt .abs (.cons (.var 3) .nil)) (.int 1000000000000000000)) true [3])) (.cons (.set (.nm 2) (.bin .add (.comp (.bin .mod (.blt .int (.cons (.var 3) .nil)) (.int 2147483543)) (.nm 3) (.froz 0) (.bl true) false [3]) (.lst (.cons (.int 91159) .nil)))) (.cons (.ret (.lst (.cons (.int 0) (.cons (.int 0) (.cons (.int 0) (.cons (.mov 1) (.cons (.mov 2) .nil))))))) .nil)))
def n__law_jar : List PySem.Str := [(PySem.Str.ofString "script"), (PySem.Str.ofString "greats"), (PySem.Str.ofString "cells"), (PySem.Str.ofString "cell")]
def d__law_jar : Ev.Def := ⟨1, 4, c__law_jar⟩
@[reducible] def f__law_jar : Nat := 6
/-- _law_dip(jar, many) : 0=jar 1=many 2=turn 3=cell 4=one 5=two 6=got -/
def c__law_dip : Ev.Ss := (.cons (.put (.at (.root 0) (.int 2)) (.bin .add (.idx (.var 0) (.int 2)) (.int 1))) (.cons (.ite (.and (.cmp .eq (.idx (.var 0) (.int 0)) (.int 0)) (.cmp .lt (.idx (.var 0) (.int 1)) (.blt .len (.cons (.idx (.var 0) (.int 3)) .nil)))) (.cons (.put (.at (.root 0) (.int 0)) (.idx (.idx (.var 0) (.int 3)) (.idx (.var 0) (.int 1)))) (.cons (.put (.at (.root 0) (.int 1)) (.bin .add (.idx (.var 0) (.int 1)) (.int 1))) .nil)) .nil) (.cons (.ite (.cmp .gt (.idx (.var 0) (.int 0)) (.int 0)) (.cons (.set (.nm 6) (.bin .mod (.blt .int (.cons (.idx (.var 0) (.int 0)) .nil)) (.var 1))) (.cons (.put (.at (.root 0) (.int 0)) (.bin .fdiv (.idx (.var 0) (.int 0)) (.var 1))) (.cons (.ret (.mov 6)) .nil))) .nil) (.cons (.set (.nm 2) (.idx (.var 0) (.int 2))) (.cons (.set (.nm 3) (.idx (.idx (.var 0) (.int 4)) (.bin .mod (.blt .int (.cons (.var 2) .nil)) (.blt .len (.cons (.idx (.var 0) (.int 4)) .nil))))) (.cons (.set (.nm 4) (.bin .mod (.blt .int (.cons (.bin .add (.bin .add (.bin .mul (.var 3) (.int 60017)) (.bin .mul (.var 2) (.int 70979))) (.int 5507)) .nil)) (.int 1000133))) (.cons (.set (.nm 5) (.bin .mod (.blt .int (.cons (.bin .add (.bin .add (.bin .mul (.var 4) (.var 4)) (.bin .mul (.var 2) (.int 257))) (.bin .mul (.var 3) (.int 9))) .nil)) (.int 899809343))) (.cons (.ret (.bin .mod (.blt .int (.cons (.bin .fdiv (.var 5) (.int 256)) .nil)) (.var 1))) .nil))))))))
def n__law_dip : List PySem.Str := [(PySem.Str.ofString "jar"), (PySem.Str.ofString "many"), (PySem.Str.ofString "turn"), (PySem.Str.ofString "cell"), (PySem.Str.ofString "one"), (PySem.Str.ofString "two"), (PySem.Str.ofString "got")]
def d__law_dip : Ev.Def := ⟨2, 7, c__law_dip⟩
@[reducible] def f__law_dip : Nat := 7
/-- _law_same(told, due) : 0=told 1=due 2=k -/
def c__law_same : Ev.Ss := (.cons (.ite (.cmp .is (.var 1) .non) (.cons (.ret (.cmp .is (.var 0) .non)) .nil) .nil) (.cons (.ite (.isi (.var 1) .bool) (.cons (.ret (.and (.isi (.var 0) .bool) (.cmp .eq (.var 0) (.var 1)))) .nil) .nil) (.cons (.ite (.isi (.var 1) .tuple) (.cons (.ite (.or (.not (.isi (.var 0) .tuple)) (.cmp .ne (.blt .len (.cons (.var 0) .nil)) (.blt .len (.cons (.var 1) .nil)))) (.cons (.ret (.bl false)) .nil) .nil) (.cons (.loop (.nm 2) (.rng1 (.blt .len (.cons (.var 1) .nil))) (.cons (.ite (.not (.call 8 (.cons (.idx (.var 0) (.var 2)) (.cons (.idx (.var 1) (.var 2)) .nil)))) (.cons (.ret (.bl false)) .nil) .nil) .nil)) (.cons (.ret (.bl true)) .nil))) .nil) (.cons (.ret (.and (.isi (.var 0) .int) (.and (.not (.isi (.var 0) .bool)) (.cmp .eq (.var 0) (.var 1))))) .nil))))
def n__law_same : List PySem.Str := [(PySem.Str.ofString "told"), (PySem.Str.ofString "due"), (PySem.Str.ofString "k")]
def d__law_same : Ev.Def := ⟨2, 3, c__law_same⟩
@[reducible] def f__law_same : Nat := 8
/-- _law_come(cause, times) : 0=cause 1=times 2=come 3=k -/
def c__law_come : Ev.Ss := (.cons (.set (.nm 2) .non) (.cons (.loop (.nm 3) (.rng1 (.blt .len (.cons (.var 0) .nil))) (.cons (.ite (.cmp .ge (.idx (.var 0) (.var 3)) (.int 0)) (.cons (.ite (.cmp .is (.idx (.var 1) (.var 3)) .non) (.cons (.ret .non) .nil) .nil) (.cons (.ite (.or (.cmp .is (.var 2) .non) (.cmp .gt (.bin .add (.idx (.var 1) (.var 3)) (.idx (.var 0) (.var 3))) (.var 2))) (.cons (.set (.nm 2) (.bin .add (.idx (.var 1) (.var 3)) (.idx (.var 0) (.var 3)))) .nil) .nil) .nil)) .nil) .nil)) (.cons (.ret (.mov 2)) .nil)))
def n__law_come : List PySem.Str := [(PySem.Str.ofString "cause"), (PySem.Str.ofString "times"), (PySem.Str.ofString "come"), (PySem.Str.ofString "k")]
def d__law_come : Ev.Def := ⟨2, 4, c__law_come⟩
@[reducible] def f__law_come : Nat := 9
/-- _law_time(causes, times) : 0=causes 1=times 2=found 3=numbers 4=cause 5=come -/
def c__law_time : Ev.Ss := (.cons (.set (.nm 2) (.comp (.call 9 (.cons (.lend 4) (.cons (.lend 1) .nil))) (.nm 4) (.froz 0) (.bl true) false [4])) (.cons (.set (.nm 3) (.comp (.var 5) (.nm 5) (.froz 2) (.cmp .isn (.var 5) .non) true [5])) (.cons (.ite (.cmp .eq (.blt .len (.cons (.var 3) .nil)) (.int 0)) (.cons (.ret .non) .nil) .nil) (.cons (.ret (.blt .min (.cons (.var 3) .nil))) .nil))))
def n__law_time : List PySem.Str := [(PySem.Str.ofString "causes"), (PySem.Str.ofString "times"), (PySem.Str.ofString "found"), (PySem.Str.ofString "numbers"), (PySem.Str.ofString "cause"), (PySem.Str.ofString "come")]
def d__law_time : Ev.Def := ⟨2, 6, c__law_time⟩
@[reducible] def f__law_time : Nat := 10
/-- _law_bars(wishes) : 0=wishes 1=bars 2=k 3=due 4=own 5=j 6=come 7=time -/
def c__law_bars : Ev.Ss := (.cons (.set (.nm 1) (.lst .nil)) (.cons (.loop (.nm 2) (.rng1 (.blt .len (.cons (.var 0) .nil))) (.cons (.set (.nm 3) (.idx (.idx (.var 0) (.var 2)) (.int 1))) (.cons (.ite (.cmp .is (.var 3) .non) (.cons .cnt .nil) .nil) (.cons (.set (.nm 4) (.comp (.ite (.and (.cmp .isn (.var 7) .non) (.cmp .le (.var 7) (.var 3))) (.bin .sub (.var 3) (.var 7)) (.neg (.int 1))) (.nm 7) (.seqv (.idx (.idx (.var 0) (.var 2)) (.int 0))) (.bl true) false [7])) (.cons (.ite (.cmp .lt (.blt .max (.cons (.var 4) .nil)) (.int 0)) (.cons (.ex (.mth .append (.root 1) (.cons (.tup (.cons (.mov 2) (.cons (.mov 2) .nil))) .nil))) (.cons .cnt .nil)) .nil) (.cons (.loop (.nm 5) (.rng1 (.blt .len (.cons (.var 0) .nil))) (.cons (.set (.nm 6) (.call 9 (.cons (.lend 4) (.cons (.idx (.idx (.var 0) (.var 5)) (.int 0)) .nil)))) (.cons (.ite (.and (.cmp .isn (.var 6) .non) (.or (.cmp .is (.idx (.idx (.var 0) (.var 5)) (.int 1)) .non) (.cmp .lt (.var 6) (.idx (.idx (.var 0) (.var 5)) (.int 1))))) (.cons (.ex (.mth .append (.root 1) (.cons (.tup (.cons (.mov 2) (.cons (.mov 5) .nil))) .nil))) .nil) .nil) .nil))) .nil)))))) (.cons (.ret (.blt .tuple (.cons (.var 1) .nil))) .nil)))
def n__law_bars : List PySem.Str := [(PySem.Str.ofString "wishes"), (PySem.Str.ofString "bars"), (PySem.Str.ofString "k"), (PySem.Str.ofString "due"), (PySem.Str.ofString "own"), (PySem.Str.ofString "j"), (PySem.Str.ofString "come"), (PySem.Str.ofString "time")]
def d__law_bars : Ev.Def := ⟨1, 8, c__law_bars⟩
@[reducible] def f__law_bars : Nat := 11
/-- _law_cause(jar, many, great) : 0=jar 1=many 2=great 3=cause 4=k 5=part -/
def c__law_cause : Ev.Ss := (.cons (.set (.nm 3) (.lst .nil)) (.cons (.loop (.nm 4) (.rng1 (.var 1)) (.cons (.set (.nm 5) (.call 7 (.cons (.lend 0) (.cons (.lend 2) .nil)))) (.cons (.ite (.cmp .eq (.call 7 (.cons (.lend 0) (.cons (.int 3) .nil))) (.int 2)) (.cons (.set (.nm 5) (.neg (.int 1))) .nil) .nil) (.cons (.ex (.mth .append (.root 3) (.cons (.mov 5) .nil))) .nil)))) (.cons (.ite (.cmp .lt (.blt .max (.cons (.var 3) .nil)) (.int 0)) (.cons (.putr 3 (.call 7 (.cons (.lend 0) (.cons (.lend 1) .nil))) (.call 7 (.cons (.lend 0) (.cons (.lend 2) .nil)))) .nil) .nil) (.cons (.ret (.blt .tuple (.cons (.var 3) .nil))) .nil))))
def n__law_cause : List PySem.Str := [(PySem.Str.ofString "jar"), (PySem.Str.ofString "many"), (PySem.Str.ofString "great"), (PySem.Str.ofString "cause"), (PySem.Str.ofString "k"), (PySem.Str.ofString "part")]
def d__law_cause : Ev.Def := ⟨3, 6, c__law_cause⟩
@[reducible] def f__law_cause : Nat := 12
/-- _law_times(jar, many, great) : 0=jar 1=many 2=great 3=row 4=k 5=time -/
def c__law_times : Ev.Ss := (.cons (.set (.nm 3) (.lst .nil)) (.cons (.loop (.nm 4) (.rng1 (.var 1)) (.cons (.set (.nm 5) (.call 7 (.cons (.lend 0) (.cons (.lend 2) .nil)))) (.cons (.ite (.cmp .eq (.call 7 (.cons (.lend 0) (.cons (.int 5) .nil))) (.int 4)) (.cons (.set (.nm 5) .non) .nil) .nil) (.cons (.ex (.mth .append (.root 3) (.cons (.mov 5) .nil))) .nil)))) (.cons (.ret (.blt .tuple (.cons (.var 3) .nil))) .nil)))
def n__law_times : List PySem.Str := [(PySem.Str.ofString "jar"), (PySem.Str.ofString "many"), (PySem.Str.ofString "great"), (PySem.Str.ofString "row"), (PySem.Str.ofString "k"), (PySem.Str.ofString "time")]
def d__law_times : Ev.Def := ⟨3, 6, c__law_times⟩
@[reducible] def f__law_times : Nat := 13
/-- _law_put(wishes, at, pair) : 0=wishes 1=at 2=pair -/
def c__law_put : Ev.Ss := (.cons (.ret (.bin .add (.bin .add (.slc (.var 0) .part (.var 1)) (.tup (.cons (.mov 2) .nil))) (.slc (.var 0) (.var 1) .part))) .nil)
def n__law_put : List PySem.Str := [(PySem.Str.ofString "wishes"), (PySem.Str.ofString "at"), (PySem.Str.ofString "pair")]
def d__law_put : Ev.Def := ⟨3, 3, c__law_put⟩
@[reducible] def f__law_put : Nat := 14
/-- _law_asked(many, wishes, bars) : 0=many 1=wishes 2=bars 3=first -/
def c__law_asked : Ev.Ss := (.cons (.ite (.not (.call 8 (.cons (.call 3 (.cons (.lend 0) (.cons (.lend 1) .nil))) (.cons (.lend 2) .nil)))) (.cons (.ret (.bl false)) .nil) .nil) (.cons (.set (.nm 3) .non) (.cons (.ite (.cmp .gt (.blt .len (.cons (.var 2) .nil)) (.int 0)) (.cons (.set (.nm 3) (.idx (.var 2) (.int 0))) .nil) .nil) (.cons (.ret (.and (.call 8 (.cons (.call 4 (.cons (.lend 0) (.cons (.lend 1) .nil))) (.cons (.lend 3) .nil))) (.call 8 (.cons (.call 5 (.cons (.lend 0) (.cons (.lend 1) .nil))) (.cons (.cmp .eq (.blt .len (.cons (.var 2) .nil)) (.int 0)) .nil))))) .nil))))
def n__law_asked : List PySem.Str := [(PySem.Str.ofString "many"), (PySem.Str.ofString "wishes"), (PySem.Str.ofString "bars"), (PySem.Str.ofString "first")]
def d__law_asked : Ev.Def := ⟨3, 4, c__law_asked⟩
@[reducible] def f__law_asked : Nat := 15
/-- _law_changed(jar, wishes, great) : 0=jar 1=wishes 2=great 3=at 4=due 5=way 6=fresh -/
def c__law_changed : Ev.Ss := (.cons (.set (.nm 3) (.call 7 (.cons (.lend 0) (.cons (.blt .len (.cons (.var 1) .nil)) .nil)))) (.cons (.set (.nm 4) (.idx (.idx (.var 1) (.var 3)) (.int 1))) (.cons (.set (.nm 5) (.call 7 (.cons (.lend 0) (.cons (.int 5) .nil)))) (.cons (.ite (.cmp .is (.var 4) .non) (.cons (.set (.nm 6) (.idx (.lst (.cons (.int 0) (.cons (.call 7 (.cons (.lend 0) (.cons (.lend 2) .nil))) (.cons (.int 99000) (.cons (.int 1) (.cons (.mov 2) .nil)))))) (.var 5))) .nil) (.cons (.set (.nm 6) (.idx (.lst (.cons (.bin .add (.var 4) (.int 1)) (.cons .non (.cons (.blt .max (.cons (.bin .sub (.var 4) (.int 1)) (.cons (.int 0) .nil))) (.cons (.int 0) (.cons (.bin .add (.var 4) (.int 2)) .nil)))))) (.var 5))) .nil)) (.cons (.ret (.bin .add (.bin .add (.slc (.var 1) .part (.var 3)) (.tup (.cons (.tup (.cons (.idx (.idx (.var 1) (.var 3)) (.int 0)) (.cons (.mov 6) .nil))) .nil))) (.slc (.var 1) (.bin .add (.var 3) (.int 1)) .part))) .nil)))))
def n__law_changed : List PySem.Str := [(PySem.Str.ofString "jar"), (PySem.Str.ofString "wishes"), (PySem.Str.ofString "great"), (PySem.Str.ofString "at"), (PySem.Str.ofString "due"), (PySem.Str.ofString "way"), (PySem.Str.ofString "fresh")]
def d__law_changed : Ev.Def := ⟨3, 7, c__law_changed⟩
@[reducible] def f__law_changed : Nat := 16
/-- _law_by_hand(jar, many, wishes, great) : 0=jar 1=many 2=wishes 3=great 4=size 5=at 6=alone 7=due 8=late 9=pair 10=early 11=later 12=never 13=moved 14=k 15=time -/
def c__law_by_hand : Ev.Ss := (.cons (.set (.nm 4) (.blt .len (.cons (.var 2) .nil))) (.cons (.set (.nm 5) (.call 7 (.cons (.lend 0) (.cons (.bin .add (.var 4) (.int 1)) .nil)))) (.cons (.set (.nm 6) (.call 14 (.cons (.lend 2) (.cons (.lend 5) (.cons (.tup (.cons (.bin .mul (.tup (.cons .non .nil)) (.var 1)) (.cons (.call 7 (.cons (.lend 0) (.cons (.lend 3) .nil))) .nil))) .nil))))) (.cons (.ite (.not (.call 15 (.cons (.lend 1) (.cons (.lend 6) (.cons (.tup (.cons (.tup (.cons (.mov 5) (.cons (.mov 5) .nil))) .nil)) .nil))))) (.cons (.ret (.bl false)) .nil) .nil) (.cons (.set (.nm 7) (.call 7 (.cons (.lend 0) (.cons (.lend 3) .nil)))) (.cons (.set (.nm 8) (.blt .tuple (.cons (.comp (.bin .add (.bin .add (.var 7) (.int 1)) (.call 7 (.cons (.lend 0) (.cons (.int 3) .nil)))) (.nm 14) (.rng1 (.var 1)) (.bl true) false [14]) .nil))) (.cons (.set (.nm 9) (.tup (.cons (.mov 8) (.cons (.mov 7) .nil)))) (.cons (.ite (.or (.not (.call 15 (.cons (.lend 1) (.cons (.tup (.cons (.mov 9) .nil)) (.cons (.tup (.cons (.tup (.cons (.int 0) (.cons (.int 0) .nil))) .nil)) .nil))))) (.not (.call 15 (.cons (.lend 1) (.cons (.tup (.cons (.mov 9) (.cons (.mov 9) .nil))) (.cons (.tup (.cons (.tup (.cons (.int 0) (.cons (.int 0) .nil))) (.cons (.tup (.cons (.int 1) (.cons (.int 1) .nil))) .nil))) .nil)))))) (.cons (.ret (.bl false)) .nil) .nil) (.cons (.set (.nm 10) (.blt .tuple (.cons (.comp (.bin .sub (.var 15) (.int 1)) (.nm 15) (.froz 8) (.bl true) false [15]) .nil))) (.cons (.set (.nm 9) (.tup (.cons (.mov 10) (.cons (.blt .max (.cons (.var 10) .nil)) .nil)))) (.cons (.ite (.or (.not (.call 15 (.cons (.lend 1) (.cons (.tup (.cons (.mov 9) .nil)) (.cons (.tup .nil) .nil))))) (.not (.call 15 (.cons (.lend 1) (.cons (.tup (.cons (.mov 9) (.cons (.mov 9) .nil))) (.cons (.tup .nil) .nil)))))) (.cons (.ret (.bl false)) .nil) .nil) (.cons (.set (.nm 11) (.tup (.cons (.mov 10) (.cons (.bin .add (.blt .max (.cons (.var 10) .nil)) (.int 1)) .nil)))) (.cons (.set (.nm 12) (.tup (.cons (.mov 10) (.cons .non .nil)))) (.cons (.ite (.or (.not (.call 15 (.cons (.lend 1) (.cons (.tup (.cons (.mov 9) (.cons (.mov 11) .nil))) (.cons (.tup (.cons (.tup (.cons (.int 0) (.cons (.int 1) .nil))) .nil)) .nil))))) (.not (.call 15 (.cons (.lend 1) (.cons (.tup (.cons (.mov 11) (.cons (.mov 9) .nil))) (.cons (.tup (.cons (.tup (.cons (.int 1) (.cons (.int 0) .nil))) .nil)) .nil)))))) (.cons (.ret (.bl false)) .nil) .nil) (.cons (.ite (.or (.not (.call 15 (.cons (.lend 1) (.cons (.tup (.cons (.mov 12) (.cons (.mov 9) .nil))) (.cons (.tup (.cons (.tup (.cons (.int 1) (.cons (.int 0) .nil))) .nil)) .nil))))) (.not (.call 15 (.cons (.lend 1) (.cons (.tup (.cons (.mov 12) (.cons (.tup (.cons (.bin .mul (.tup (.cons .non .nil)) (.var 1)) (.cons .non .nil))) .nil))) (.cons (.tup .nil) .nil)))))) (.cons (.ret (.bl false)) .nil) .nil) (.cons (.set (.nm 13) (.tup (.cons (.blt .tuple (.cons (.comp (.bin .add (.var 15) (.int 1)) (.nm 15) (.froz 10) (.bl true) false [15]) .nil)) (.cons (.bin .add (.blt .max (.cons (.var 10) .nil)) (.int 1)) .nil)))) (.cons (.ret (.and (.call 15 (.cons (.lend 1) (.cons (.tup (.cons (.mov 9) (.cons (.mov 13) .nil))) (.cons (.tup .nil) .nil)))) (.call 15 (.cons (.lend 1) (.cons (.tup (.cons (.mov 13) (.cons (.mov 11) (.cons (.mov 9) .nil)))) (.cons (.tup (.cons (.tup (.cons (.int 0) (.cons (.int 1) .nil))) (.cons (.tup (.cons (.int 2) (.cons (.int 1) .nil))) .nil))) .nil)))))) .nil)))))))))))))))))
def n__law_by_hand : List PySem.Str := [(PySem.Str.ofString "jar"), (PySem.Str.ofString "many"), (PySem.Str.ofString "wishes"), (PySem.Str.ofString "great"), (PySem.Str.ofString "size"), (PySem.Str.ofString "at"), (PySem.Str.ofString "alone"), (PySem.Str.ofString "due"), (PySem.Str.ofString "late"), (PySem.Str.ofString "pair"), (PySem.Str.ofString "early"), (PySem.Str.ofString "later"), (PySem.Str.ofString "never"), (PySem.Str.ofString "moved"), (PySem.Str.ofString "k"), (PySem.Str.ofString "time")]
def d__law_by_hand : Ev.Def := ⟨4, 16, c__law_by_hand⟩
@[reducible] def f__law_by_hand : Nat := 17
/-- law(script) : 0=script 1=jar 2=many 3=great 4=causes 5=count 6=wishes 7=lap 8=one 9=two 10=free 11=nevers 12=times 13=pair -/
def c_law : Ev.Ss := (.cons (.set (.nm 1) (.call 6 (.cons (.lend 0) .nil))) (.cons (.set (.nm 2) (.idx (.lst (.cons (.int 2) (.cons (.int 3) (.cons (.int 1) (.cons (.int 4) (.cons (.int 2) (.cons (.int 6) .nil))))))) (.call 7 (.cons (.lend 1) (.cons (.int 6) .nil))))) (.cons (.set (.nm 3) (.idx (.lst (.cons (.int 4) (.cons (.int 10) (.cons (.int 3) (.cons (.int 1000) (.cons (.int 49000) .nil)))))) (.call 7 (.cons (.lend 1) (.cons (.int 5) .nil))))) (.cons (.set (.nm 4) (.comp (.call 12 (.cons (.lend 1) (.cons (.lend 2) (.cons (.lend 3) .nil)))) (.nm 7) (.rng1 (.idx (.lst (.cons (.int 2) (.cons (.int 1) (.cons (.int 3) (.cons (.int 5) .nil))))) (.call 7 (.cons (.lend 1) (.cons (.int 4) .nil))))) (.bl true) false [7])) (.cons (.set (.nm 5) (.idx (.lst (.cons (.int 3) (.cons (.int 2) (.cons (.int 4) (.cons (.int 1) (.cons (.int 5) (.cons (.int 3) (.cons (.int 2) (.cons (.int 4) (.cons (.int 6) (.cons (.int 3) (.cons (.int 2) (.cons (.int 4) (.cons (.int 19) .nil)))))))))))))) (.call 7 (.cons (.lend 1) (.cons (.int 13) .nil))))) (.cons (.set (.nm 6) (.tup .nil)) (.cons (.loop (.nm 7) (.rng1 (.var 5)) (.cons (.set (.nm 12) (.call 13 (.cons (.lend 1) (.cons (.lend 2) (.cons (.lend 3) .nil))))) (.cons (.set (.nm 6) (.bin .add (.var 6) (.tup (.cons (.tup (.cons (.mov 12) (.cons (.call 10 (.cons (.lend 4) (.cons (.lend 12) .nil))) .nil))) .nil)))) .nil))) (.cons (.ite (.not (.call 15 (.cons (.lend 2) (.cons (.lend 6) (.cons (.tup .nil) .nil))))) (.cons (.ret (.bl false)) .nil) .nil) (.cons (.set (.nm 8) (.call 16 (.cons (.lend 1) (.cons (.lend 6) (.cons (.lend 3) .nil))))) (.cons (.set (.nm 9) (.call 16 (.cons (.lend 1) (.cons (.lend 8) (.cons (.lend 3) .nil))))) (.cons (.ite (.or (.not (.call 15 (.cons (.lend 2) (.cons (.lend 8) (.cons (.call 11 (.cons (.lend 8) .nil)) .nil))))) (.not (.call 15 (.cons (.lend 2) (.cons (.lend 9) (.cons (.call 11 (.cons (.lend 9) .nil)) .nil)))))) (.cons (.ret (.bl false)) .nil) .nil) (.cons (.set (.nm 10) (.blt .tuple (.cons (.comp (.tup (.cons (.call 13 (.cons (.lend 1) (.cons (.lend 2) (.cons (.lend 3) .nil)))) (.cons (.call 7 (.cons (.lend 1) (.cons (.lend 3) .nil))) .nil))) (.nm 7) (.rng1 (.bin .add (.int 1) (.call 7 (.cons (.lend 1) (.cons (.int 4) .nil))))) (.bl true) false [7]) .nil))) (.cons (.ite (.or (.not (.call 15 (.cons (.lend 2) (.cons (.lend 10) (.cons (.call 11 (.cons (.lend 10) .nil)) .nil))))) (.not (.call 15 (.cons (.lend 2) (.cons (.tup .nil) (.cons (.tup .nil) .nil)))))) (.cons (.ret (.bl false)) .nil) .nil) (.cons (.set (.nm 11) (.blt .tuple (.cons (.comp (.tup (.cons (.idx (.var 13) (.int 0)) (.cons .non .nil))) (.nm 13) (.froz 9) (.bl true) false [13]) .nil))) (.cons (.ite (.or (.not (.call 15 (.cons (.lend 2) (.cons (.lend 11) (.cons (.tup .nil) .nil))))) (.not (.call 8 (.cons (.callk 5 0 [1, 0] (.cons (.lend 6) (.cons (.lend 2) .nil))) (.cons (.bl true) .nil))))) (.cons (.ret (.bl false)) .nil) .nil) (.cons (.ret (.and (.call 17 (.cons (.lend 1) (.cons (.lend 2) (.cons (.lend 6) (.cons (.lend 3) .nil))))) (.call 15 (.cons (.lend 2) (.cons (.lend 6) (.cons (.tup .nil) .nil)))))) .nil))))))))))))))))
def n_law : List PySem.Str := [(PySem.Str.ofString "script"), (PySem.Str.ofString "jar"), (PySem.Str.ofString "many"), (PySem.Str.ofString "great"), (PySem.Str.ofString "causes"), (PySem.Str.ofString "count"), (PySem.Str.ofString "wishes"), (PySem.Str.ofString "lap"), (PySem.Str.ofString "one"), (PySem.Str.ofString "two"), (PySem.Str.ofString "free"), (PySem.Str.ofString "nevers"), (PySem.Str.ofString "times"), (PySem.Str.ofString "pair")]
def d_law : Ev.Def := ⟨1, 14, c_law⟩
@[reducible] def f_law : Nat := 18
def pg : Ev.Pg := ⟨[d_cause_time, d_is_ahead, d_own_cause, d_all_bars, d_bar_of, d_can_meet, d__law_jar, d__law_dip, d__law_same, d__law_come, d__law_time, d__law_bars, d__law_cause, d__law_times, d__law_put, d__law_asked, d__law_changed, d__law_by_hand, d_law], []⟩
def fns : List PySem.Str := [(PySem.Str.ofString "cause_time"), (PySem.Str.ofString "is_ahead"), (PySem.Str.ofString "own_cause"), (PySem.Str.ofString "all_bars"), (PySem.Str.ofString "bar_of"), (PySem.Str.ofString "can_meet"), (PySem.Str.ofString "_law_jar"), (PySem.Str.ofString "_law_dip"), (PySem.Str.ofString "_law_same"), (PySem.Str.ofString "_law_come"), (PySem.Str.ofString "_law_time"), (PySem.Str.ofString "_law_bars"), (PySem.Str.ofString "_law_cause"), (PySem.Str.ofString "_law_times"), (PySem.Str.ofString "_law_put"), (PySem.Str.ofString "_law_asked"), (PySem.Str.ofString "_law_changed"), (PySem.Str.ofString "_law_by_hand"), (PySem.Str.ofString "law")]
def gls : List PySem.Str := []
def tops : List PySem.Str := [(PySem.Str.ofString "max"), (PySem.Str.ofString "tuple"), (PySem.Str.ofString "range"), (PySem.Str.ofString "isinstance"), (PySem.Str.ofString "bool"), (PySem.Str.ofString "min"), (PySem.Str.ofString "len"), (PySem.Str.ofString "abs"), (PySem.Str.ofString "int")]
def nss : List (List PySem.Str) := [n_cause_time, n_is_ahead, n_own_cause, n_all_bars, n_bar_of, n_can_meet, n__law_jar, n__law_dip, n__law_same, n__law_come, n__law_time, n__law_bars, n__law_cause, n__law_times, n__law_put, n__law_asked, n__law_changed, n__law_by_hand, n_law]
def ats : List Nat := [1, 3, 5, 6, 7, 8, 10, 11, 12, 13, 14, 15, 16, 17, 18, 19, 20, 21, 22]
def kbs : List (Nat × List PySem.Str × List Nat) := [(5, [(PySem.Str.ofString "wishes"), (PySem.Str.ofString "many")], [1, 0])]
def names : Array String := #["cause_time", "is_ahead", "own_cause", "all_bars", "bar_of", "can_meet", "_law_jar", "_law_dip", "_law_same", "_law_come", "_law_time", "_law_bars", "_law_cause", "_law_times", "_law_put", "_law_asked", "_law_changed", "_law_by_hand", "law"]
def T : Ev.Text := ⟨pg, fns, nss, gls, tops, kbs, fun i => PySem.Challenge.pw_firstandlast_k20_bars.main.body.getD (ats.getD i 0) (.Pass ⟨0, 0, 0, 0⟩)⟩
theorem b0 : BindFact T 0 (PySem.Str.ofString "cause_time") := fun _ _ _ _ _ _ us hl => match us, (show us.length = 2 from hl) with | [_, _], _ => rfl
theorem s0 : ScFact T 0 (PySem.Str.ofString "cause_time") := ⟨rfl, rfl, rfl, by decide +kernel, rfl, by decide +kernel, by decide +kernel⟩
theorem c0 : CkFact T 0 (PySem.Str.ofString "cause_time") := by
  show T.chk 0 = true
  decide +kernel
theorem b1 : BindFact T 1 (PySem.Str.ofString "is_ahead") := fun _ _ _ _ _ _ us hl => match us, (show us.length = 2 from hl) with | [_, _], _ => rfl
theorem s1 : ScFact T 1 (PySem.Str.ofString "is_ahead") := ⟨rfl, rfl, rfl, by decide +kernel, rfl, by decide +kernel, by decide +kernel⟩
theorem c1 : CkFact T 1 (PySem.Str.ofString "is_ahead") := by
  show T.chk 1 = true
  decide +kernel
theorem b2 : BindFact T 2 (PySem.Str.ofString "own_cause") := fun _ _ _ _ _ _ us hl => match us, (show us.length = 1 from hl) with | [_], _ => rfl
theorem s2 : ScFact T 2 (PySem.Str.ofString "own_cause") := ⟨rfl, rfl, rfl, by decide +kernel, rfl, by decide +kernel, by decide +kernel⟩
theorem c2 : CkFact T 2 (PySem.Str.ofString "own_cause") := by
  show T.chk 2 = true
  decide +kernel
theorem b3 : BindFact T 3 (PySem.Str.ofString "all_bars") := fun _ _ _ _ _ _ us hl => match us, (show us.length = 2 from hl) with | [_, _], _ => rfl
theorem s3 : ScFact T 3 (PySem.Str.ofString "all_bars") := ⟨rfl, rfl, rfl, by decide +kernel, rfl, by decide +kernel, by decide +kernel⟩
theorem c3 : CkFact T 3 (PySem.Str.ofString "all_bars") := by
  show T.chk 3 = true
  decide +kernel
theorem b4 : BindFact T 4 (PySem.Str.ofString "bar_of") := fun _ _ _ _ _ _ us hl => match us, (show us.length = 2 from hl) with | [_, _], _ => rfl
theorem s4 : ScFact T 4 (PySem.Str.ofString "bar_of") := ⟨rfl, rfl, rfl, by decide +kernel, rfl, by decide +kernel, by decide +kernel⟩
theorem c4 : CkFact T 4 (PySem.Str.ofString "bar_of") := by
  show T.chk 4 = true
  decide +kernel
theorem b5 : BindFact T 5 (PySem.Str.ofString "can_meet") := fun _ _ _ _ _ _ us hl => match us, (show us.length = 2 from hl) with | [_, _], _ => rfl
theorem s5 : ScFact T 5 (PySem.Str.ofString "can_meet") := ⟨rfl, rfl, rfl, by decide +kernel, rfl, by decide +kernel, by decide +kernel⟩
theorem c5 : CkFact T 5 (PySem.Str.ofString "can_meet") := by
  show T.chk 5 = true
  decide +kernel
theorem b6 : BindFact T 6 (PySem.Str.ofString "_law_jar") := fun _ _ _ _ _ _ us hl => match us, (show us.length = 1 from hl) with | [_], _ => rfl
theorem s6 : ScFact T 6 (PySem.Str.ofString "_law_jar") := ⟨rfl, rfl, rfl, by decide +kernel, rfl, by decide +kernel, by decide +kernel⟩
theorem c6 : CkFact T 6 (PySem.Str.ofString "_law_jar") := by
  show T.chk 6 = true
  decide +kernel
theorem b7 : BindFact T 7 (PySem.Str.ofString "_law_dip") := fun _ _ _ _ _ _ us hl => match us, (show us.length = 2 from hl) with | [_, _], _ => rfl
theorem s7 : ScFact T 7 (PySem.Str.ofString "_law_dip") := ⟨rfl, rfl, rfl, by decide +kernel, rfl, by decide +kernel, by decide +kernel⟩
theorem c7 : CkFact T 7 (PySem.Str.ofString "_law_dip") := by
  show T.chk 7 = true
  decide +kernel
theorem b8 : BindFact T 8 (PySem.Str.ofString "_law_same") := fun _ _ _ _ _ _ us hl => match us, (show us.length = 2 from hl) with | [_, _], _ => rfl
theorem s8 : ScFact T 8 (PySem.Str.ofString "_law_same") := ⟨rfl, rfl, rfl, by decide +kernel, rfl, by decide +kernel, by decide +kernel⟩
theorem c8 : CkFact T 8 (PySem.Str.ofString "_law_same") := by
  show T.chk 8 = true
  decide +kernel
theorem b9 : BindFact T 9 (PySem.Str.ofString "_law_come") := fun _ _ _ _ _ _ us hl => match us, (show us.length = 2 from hl) with | [_, _], _ => rfl
theorem s9 : ScFact T 9 (PySem.Str.ofString "_law_come") := ⟨rfl, rfl, rfl, by decide +kernel, rfl, by decide +kernel, by decide +kernel⟩
theorem c9 : CkFact T 9 (PySem.Str.ofString "_law_come") := by
  show T.chk 9 = true
  decide +kernel
theorem b10 : BindFact T 10 (PySem.Str.ofString "_law_time") := fun _ _ _ _ _ _ us hl => match us, (show us.length = 2 from hl) with | [_, _], _ => rfl
theorem s10 : ScFact T 10 (PySem.Str.ofString "_law_time") := ⟨rfl, rfl, rfl, by decide +kernel, rfl, by decide +kernel, by decide +kernel⟩
theorem c10 : CkFact T 10 (PySem.Str.ofString "_law_time") := by
  show T.chk 10 = true
  decide +kernel
theorem b11 : BindFact T 11 (PySem.Str.ofString "_law_bars") := fun _ _ _ _ _ _ us hl => match us, (show us.length = 1 from hl) with | [_], _ => rfl
theorem s11 : ScFact T 11 (PySem.Str.ofString "_law_bars") := ⟨rfl, rfl, rfl, by decide +kernel, rfl, by decide +kernel, by decide +kernel⟩
theorem c11 : CkFact T 11 (PySem.Str.ofString "_law_bars") := by
  show T.chk 11 = true
  decide +kernel
theorem b12 : BindFact T 12 (PySem.Str.ofString "_law_cause") := fun _ _ _ _ _ _ us hl => match us, (show us.length = 3 from hl) with | [_, _, _], _ => rfl
theorem s12 : ScFact T 12 (PySem.Str.ofString "_law_cause") := ⟨rfl, rfl, rfl, by decide +kernel, rfl, by decide +kernel, by decide +kernel⟩
theorem c12 : CkFact T 12 (PySem.Str.ofString "_law_cause") := by
  show T.chk 12 = true
  decide +kernel
theorem b13 : BindFact T 13 (PySem.Str.ofString "_law_times") := fun _ _ _ _ _ _ us hl => match us, (show us.length = 3 from hl) with | [_, _, _], _ => rfl
theorem s13 : ScFact T 13 (PySem.Str.ofString "_law_times") := ⟨rfl, rfl, rfl, by decide +kernel, rfl, by decide +kernel, by decide +kernel⟩
theorem c13 : CkFact T 13 (PySem.Str.ofString "_law_times") := by
  show T.chk 13 = true
  decide +kernel
theorem b14 : BindFact T 14 (PySem.Str.ofString "_law_put") := fun _ _ _ _ _ _ us hl => match us, (show us.length = 3 from hl) with | [_, _, _], _ => rfl
theorem s14 : ScFact T 14 (PySem.Str.ofString "_law_put") := ⟨rfl, rfl, rfl, by decide +kernel, rfl, by decide +kernel, by decide +kernel⟩
theorem c14 : CkFact T 14 (PySem.Str.ofString "_law_put") := by
  show T.chk 14 = true
  decide +kernel
theorem b15 : BindFact T 15 (PySem.Str.ofString "_law_asked") := fun _ _ _ _ _ _ us hl => match us, (show us.length = 3 from hl) with | [_, _, _], _ => rfl
theorem s15 : ScFact T 15 (PySem.Str.ofString "_law_asked") := ⟨rfl, rfl, rfl, by decide +kernel, rfl, by decide +kernel, by decide +kernel⟩
theorem c15 : CkFact T 15 (PySem.Str.ofString "_law_asked") := by
  show T.chk 15 = true
  decide +kernel
theorem b16 : BindFact T 16 (PySem.Str.ofString "_law_changed") := fun _ _ _ _ _ _ us hl => match us, (show us.length = 3 from hl) with | [_, _, _], _ => rfl
theorem s16 : ScFact T 16 (PySem.Str.ofString "_law_changed") := ⟨rfl, rfl, rfl, by decide +kernel, rfl, by decide +kernel, by decide +kernel⟩
theorem c16 : CkFact T 16 (PySem.Str.ofString "_law_changed") := by
  show T.chk 16 = true
  decide +kernel
theorem b17 : BindFact T 17 (PySem.Str.ofString "_law_by_hand") := fun _ _ _ _ _ _ us hl => match us, (show us.length = 4 from hl) with | [_, _, _, _], _ => rfl
theorem s17 : ScFact T 17 (PySem.Str.ofString "_law_by_hand") := ⟨rfl, rfl, rfl, by decide +kernel, rfl, by decide +kernel, by decide +kernel⟩
theorem c17 : CkFact T 17 (PySem.Str.ofString "_law_by_hand") := by
  show T.chk 17 = true
  decide +kernel
theorem b18 : BindFact T 18 (PySem.Str.ofString "law") := fun _ _ _ _ _ _ us hl => match us, (show us.length = 1 from hl) with | [_], _ => rfl
theorem s18 : ScFact T 18 (PySem.Str.ofString "law") := ⟨rfl, rfl, rfl, by decide +kernel, rfl, by decide +kernel, by decide +kernel⟩
theorem c18 : CkFact T 18 (PySem.Str.ofString "law") := by
  show T.chk 18 = true
  decide +kernel
theorem kb0 : KbFact T (5, [(PySem.Str.ofString "wishes"), (PySem.Str.ofString "many")], [1, 0]) := fun x hx kV dc pm cd ct an ws hl => by
  have e : x = (PySem.Str.ofString "can_meet") := (Option.some.inj (show some (PySem.Str.ofString "can_meet") = some x from hx)).symm
  subst e
  match ws, (show ws.length = 2 from hl) with
  | [_, _], _ => rfl
theorem bf : ∀ (i : Nat) (x : Str), T.fns[i]? = some x → BindFact T i x := each_0 (each_cons b0 (each_cons b1 (each_cons b2 (each_cons b3 (each_cons b4 (each_cons b5 (each_cons b6 (each_cons b7 (each_cons b8 (each_cons b9 (each_cons b10 (each_cons b11 (each_cons b12 (each_cons b13 (each_cons b14 (each_cons b15 (each_cons b16 (each_cons b17 (each_cons b18 each_nil)))))))))))))))))))
theorem sf : ∀ (i : Nat) (x : Str), T.fns[i]? = some x → ScFact T i x := each_0 (each_cons s0 (each_cons s1 (each_cons s2 (each_cons s3 (each_cons s4 (each_cons s5 (each_cons s6 (each_cons s7 (each_cons s8 (each_cons s9 (each_cons s10 (each_cons s11 (each_cons s12 (each_cons s13 (each_cons s14 (each_cons s15 (each_cons s16 (each_cons s17 (each_cons s18 each_nil)))))))))))))))))))
theorem cf : ∀ (i : Nat) (x : Str), T.fns[i]? = some x → CkFact T i x := each_0 (each_cons c0 (each_cons c1 (each_cons c2 (each_cons c3 (each_cons c4 (each_cons c5 (each_cons c6 (each_cons c7 (each_cons c8 (each_cons c9 (each_cons c10 (each_cons c11 (each_cons c12 (each_cons c13 (each_cons c14 (each_cons c15 (each_cons c16 (each_cons c17 (each_cons c18 each_nil)))))))))))))))))))
theorem kf : ∀ q ∈ T.kbs, KbFact T q := (List.forall_mem_cons.mpr ⟨kb0, (fun _ h => absurd h List.not_mem_nil)⟩)
end K
end

section
set_option maxRecDepth 100000
set_option linter.all false
namespace K
open Ev
@[reducible] def fuel : Nat := 1000
def ahead : Option Int → Option Int → Bool
  | none, _ => false
  | some _, none => true
  | some a, some b => decide (a < b)
theorem r_ahead (n : Nat) (a b : Option Int) : run pg fuel (n + 1) f_is_ahead [oD a, oD b] = .ok (.bl (ahead a b)) [oD a, oD b] := by
  cases a <;> cases b <;> rfl
def sel (zs : List (Int × Option Int)) : List (Int × Option Int) := zs.filter fun z => decide (0 ≤ z.1)
def pairD (z : Int × Option Int) : D := .tup [oD z.2, .int z.1]
theorem r_ct1 (gl : Nat → Option D) (call : Nat → List D → R D) (zs : List (Int × Option Int)) (hl : zs.length ≤ 100) (a b c d : D) :
    evM gl call (.comp (.tup (.cons (.idx (.var 1) (.var 3)) (.cons (.idx (.var 0) (.var 3)) .nil))) (.nm 3) (.rng1 (.blt .len (.cons (.var 0) .nil))) (.cmp .ge (.idx (.var 0) (.var 3)) (.int 0)) true [3]) .v
      [tD (zs.map (·.1)), tO (zs.map (·.2)), a, b, c, d] = .ok (.lst ((sel zs).map pairD)) [tD (zs.map (·.1)), tO (zs.map (·.2)), a, .no, c, d] := by
  refine (comp_ok (fz := none) (ρ1 := [tD (zs.map (·.1)), tO (zs.map (·.2)), a, b, c, d]) (ds := rngL 0 zs.length) (fun d => match d with
    | .int k => (zs[k.toNat]?).bind fun z => if 0 ≤ z.1 then some (pairD z) else none
    | _ => none) ?_ ?_ rfl).trans ?_
  · simp [tD, rngOk_of (i := (zs.length : Int)) (by omega) (by omega), fits_of (n := zs.length) (by omega)]
  · intro x hx
    unfold rngL at hx
    obtain ⟨k, hk, rfl⟩ := List.mem_map.mp hx
    have hk : k < zs.length := by simpa using hk
    simp [cturn, stT, Ev.wipe, tD, tO, hk]
    split <;> simp_all [pairD]
  · congr 2
    have := rng_index zs (fun z => if 0 ≤ z.1 then some (pairD z) else none) (fun d => match d with
      | .int k => (zs[k.toNat]?).bind fun z => if 0 ≤ z.1 then some (pairD z) else none
      | _ => none) fun k x hx => by simp [hx]
    rw [this]
    unfold sel
    clear this hl
    induction zs with
    | nil => rfl
    | cons z zs ih =>
      by_cases h : 0 ≤ z.1 <;> simp [h, ih]
theorem r_ct2 (gl : Nat → Option D) (call : Nat → List D → R D) (ps : List (Int × Option Int)) (C T a c d : D) :
    evM gl call (.comp (.var 4) (.tup (.cons (.nm 4) (.cons (.nm 5) .nil))) (.froz 2) (.cmp .is (.var 4) .non) true [4, 5]) .v
      [C, T, .lst (ps.map pairD), a, c, d] = .ok (.lst ((ps.filter fun z => z.2.isNone).map fun _ => D.non)) [C, T, .lst (ps.map pairD), a, .no, .no] := by
  have him : D.immL (ps.map pairD) = true := immL_of fun x m => by obtain ⟨z, _, rfl⟩ := List.mem_map.mp m; simp [pairD]
  refine (comp_ok (fz := some 2) (ρ1 := [C, T, .rol false (ps.map pairD), a, c, d]) (ds := ps.map pairD) (fun d => match d with
    | .tup [.non, _] => some .non
    | _ => none) ?_ ?_ rfl).trans ?_
  · simp [items, him, D.still]
  · intro x hx
    obtain ⟨z, _, rfl⟩ := List.mem_map.mp hx
    obtain ⟨k, o⟩ := z
    cases o <;> simp [cturn, stT, stTs, Ev.wipe, pairD, oD, Tgs.len]
  · congr 2
    rw [List.filterMap_map]
    clear him
    induction ps with
    | nil => rfl
    | cons z ps ih =>
      obtain ⟨k, o⟩ := z
      cases o <;> simp [pairD, oD] <;> exact ih
theorem r_ct3 (gl : Nat → Option D) (call : Nat → List D → R D) (ps : List (Int × Option Int)) (h : ∀ z ∈ ps, z.2 ≠ none) (C T a c d : D) :
    evM gl call (.comp (.bin .add (.var 4) (.var 5)) (.tup (.cons (.nm 4) (.cons (.nm 5) .nil))) (.froz 2) (.bl true) false [4, 5]) .v
      [C, T, .lst (ps.map pairD), a, c, d] = .ok (.lst ((ps.map fun z => z.2.getD 0 + z.1).map .int)) [C, T, .lst (ps.map pairD), a, .no, .no] := by
  have him : D.immL (ps.map pairD) = true := immL_of fun x m => by obtain ⟨z, _, rfl⟩ := List.mem_map.mp m; simp [pairD]
  refine (comp_ok (fz := some 2) (ρ1 := [C, T, .rol false (ps.map pairD), a, c, d]) (ds := ps.map pairD) (fun d => match d with
    | .tup [.int t, .int k] => some (.int (t + k))
    | _ => none) ?_ ?_ rfl).trans ?_
  · simp [items, him, D.still]
  · intro x hx
    obtain ⟨z, mz, rfl⟩ := List.mem_map.mp hx
    obtain ⟨k, o⟩ := z
    cases o with
    | none => exact absurd rfl (h _ mz)
    | some t => simp [cturn, stT, stTs, Ev.wipe, pairD, oD, Tgs.len]
  · congr 2
    rw [List.filterMap_map]
    clear him
    induction ps with
    | nil => rfl
    | cons z ps ih =>
      obtain ⟨k, o⟩ := z
      cases o with
      | none => exact absurd rfl (h _ List.mem_cons_self)
      | some t =>
        have := ih fun z m => h z (List.mem_cons_of_mem _ m)
        simp [pairD, oD]
        simpa using this
/-- the time of a cause -/
def come (zs : List (Int × Option Int)) : Option Int := if (sel zs).any (fun z => z.2.isNone) then none else maxI ((sel zs).map fun z => z.2.getD 0 + z.1)
theorem r_cause_time (n : Nat) (zs : List (Int × Option Int)) (hl : zs.length ≤ 100) (hs : sel zs ≠ []) : run pg fuel (n + 1) f_cause_time [tD (zs.map (·.1)), tO (zs.map (·.2))] = .ok (oD (come zs)) [tD (zs.map (·.1)), tO (zs.map (·.2))] := by
  show (evSs (fun g => pg.glb[g]?) (run pg fuel n) fuel c_cause_time (okP [tD (zs.map (·.1)), tO (zs.map (·.2))]) [tD (zs.map (·.1)), tO (zs.map (·.2)), .no, .no, .no, .no]).fin _ = _
  unfold c_cause_time
  simp only [e_cons, evS]
  rw [r_ct1 _ _ zs hl]
  have hset : ∀ (x : D), stT (okP [tD (zs.map (·.1)), tO (zs.map (·.2))]) (.nm 2) x [tD (zs.map (·.1)), tO (zs.map (·.2)), .no, .no, .no, .no] = some [tD (zs.map (·.1)), tO (zs.map (·.2)), x, .no, .no, .no] := fun x => rfl
  simp only [e_o_ok, hset, e_optO, e_nx, x_cmp, x_blt, x_bsc, x_bsn, b_comp]
  rw [r_ct2]
  simp only [e_bind_ok]
  by_cases hn : (sel zs).any (fun z => z.2.isNone) = true
  · have : ((sel zs).filter fun z => z.2.isNone) ≠ [] := by
      obtain ⟨z, mz, hz⟩ := List.any_eq_true.mp hn
      intro e
      have : z ∈ (sel zs).filter fun z => z.2.isNone := List.mem_filter.mpr ⟨mz, hz⟩
      rw [e] at this; cases this
    have hp : 0 < ((sel zs).filter fun z => z.2.isNone).length := List.length_pos_iff.mpr this
    simp [hp, come, hn, oD, O.fin, fin, evS, tD, tO]
  · have h0 : ((sel zs).filter fun z => z.2.isNone) = [] := by
      rw [List.filter_eq_nil_iff]
      intro z mz hz
      exact hn (List.any_eq_true.mpr ⟨z, mz, hz⟩)
    have hall : ∀ z ∈ sel zs, z.2 ≠ none := by
      intro z mz e
      exact hn (List.any_eq_true.mpr ⟨z, mz, by rw [e]; rfl⟩)
    have hne : ((sel zs).map fun z => z.2.getD 0 + z.1) ≠ [] := by simpa using hs
    obtain ⟨v, hv⟩ : ∃ v, maxI ((sel zs).map fun z => z.2.getD 0 + z.1) = some v := by
      cases e : ((sel zs).map fun z => z.2.getD 0 + z.1) with
      | nil => exact absurd e hne
      | cons x xs => exact ⟨_, rfl⟩
    have hmax : Blt.run .max [.lst (((sel zs).map fun z => z.2.getD 0 + z.1).map .int)] = some (.int v) := by rw [max_ints, hv]; rfl
    have hc : come zs = some v := by unfold come; rw [if_neg hn, hv]
    rw [h0, hc]
    simp only [List.map_nil, len_lst, needs_true, q_nil, e_if, e_bind_ok, e_opt, e_trv, e_trb, e_trt, x_int, t_bl, c_gt, List.length_nil, e_o_ok, e_isT, evS, x_blt, x_bsc, b_comp, q_int]
    simp
    rw [r_ct3 _ _ _ hall]
    simp only [needs_true, q_nil, e_if, e_bind_ok, e_opt, e_trv, x_bsn, hmax, e_o_ok, e_rt]
    simp [O.fin, fin, oD, tD, tO]
/-! ### own causes -/
def ownF (d : Int) : Option Int → Int
  | some t => if t ≤ d then d - t else -1
  | none => -1
def own (ts : List (Option Int)) (due : Option Int) : Option (List Int) := due.bind fun d => if 0 ≤ (maxI (ts.map (ownF d))).getD (-1) then some (ts.map (ownF d)) else none
def cD : Option (List Int) → D
  | none => .non
  | some xs => tD xs
def wD (w : List (Option Int) × Option Int) : D := .tup [tO w.1, oD w.2]
theorem r_oc1 (gl : Nat → Option D) (call : Nat → List D → R D) (ts : List (Option Int)) (d : Int) (w a c : D) :
    evM gl call (.comp (.ite (.and (.cmp .isn (.var 4) .non) (.cmp .le (.var 4) (.var 3))) (.bin .sub (.var 3) (.var 4)) (.neg (.int 1))) (.nm 4) (.froz 2) (.bl true) false [4]) .v
      [w, a, tO ts, .int d, c] = .ok (.lst ((ts.map (ownF d)).map .int)) [w, a, tO ts, .int d, .no] := by
  refine (comp_ok (fz := none) (ρ1 := [w, a, tO ts, .int d, c]) (ds := ts.map oD) (fun x => match x with
    | .int t => some (.int (ownF d (some t)))
    | _ => some (.int (-1))) ?_ ?_ rfl).trans ?_
  · simp [items, tO, D.still]
  · intro x hx
    obtain ⟨o, _, rfl⟩ := List.mem_map.mp hx
    cases o with
    | none => simp [cturn, stT, Ev.wipe, oD, tO]
    | some t =>
      by_cases h : t ≤ d <;> simp [cturn, stT, Ev.wipe, oD, tO, ownF, h]
  · congr 2
    rw [List.filterMap_map]
    induction ts with
    | nil => rfl
    | cons t ts ih =>
      have h1 : ownF d none = -1 := rfl
      cases t <;> simp [oD, h1] <;> simpa using ih
theorem r_own_cause (n : Nat) (w : List (Option Int) × Option Int) (h : w.1 ≠ []) : run pg fuel (n + 1) f_own_cause [wD w] = .ok (cD (own w.1 w.2)) [wD w] := by
  obtain ⟨ts, due⟩ := w
  show (evSs (fun g => pg.glb[g]?) (run pg fuel n) fuel c_own_cause (okP [wD (ts, due)]) [wD (ts, due), .no, .no, .no, .no]).fin _ = _
  have him : D.immL [tO ts, oD due] = true := by simp [tO]
  cases due with
  | none => 
    unfold c_own_cause
    simp [evS, wD, tO, oD, stT, stTs, Tgs.len, okP, own, cD, O.fin, fin]
  | some d =>
    obtain ⟨v, hv⟩ := maxI_some (xs := ts.map (ownF d)) (by simpa using h)
    have hm : Blt.run .max [.tup ((ts.map (ownF d)).map .int)] = some (.int v) := by rw [max_tup, hv]; rfl
    unfold c_own_cause
    simp only [e_cons, evS]
    have e1 : evM (fun g => pg.glb[g]?) (run pg fuel n) (.mov 0) .v [wD (ts, some d), .no, .no, .no, .no] = .ok (wD (ts, some d)) [wD (ts, some d), .no, .no, .no, .no] := by simp [wD, tO, oD]
    have e2 : stT (okP [wD (ts, some d)]) (.tup (.cons (.nm 2) (.cons (.nm 3) .nil))) (wD (ts, some d)) [wD (ts, some d), .no, .no, .no, .no] = some [wD (ts, some d), .no, tO ts, .int d, .no] := by simp [wD, stT, stTs, Tgs.len, okP, oD]
    rw [e1]
    simp only [e_o_ok, e2, e_optO, e_nx]
    simp only [x_cmp, x_var, rd_eq, x_non, x_blt, x_bsc, b_comp]
    simp
    rw [r_oc1]
    simp only [e_bind_ok, tup_lst, immL_ints, if_true, e_opt, e_o_ok]
    simp [stT, okP]
    have hm' : Blt.run .max [.tup (ts.map (D.int ∘ ownF d))] = some (.int v) := by rw [← hm, List.map_map]
    simp [hm']
    by_cases hv0 : 0 ≤ v
    · simp [hv0, own, hv, cD, O.fin, fin, wD, tO, tD]
    · simp [hv0, own, hv, cD, O.fin, fin, wD, tO, tD]
/-! ### bars -/
def pD (p : Nat × Nat) : D := .tup [.int (p.1 : Int), .int (p.2 : Int)]
abbrev Wish := List (Option Int) × Option Int
def hit (c : List Int) (w : Wish) : Bool := ahead (come (c.zip w.1)) w.2
def barsAt (ws : List Wish) (k : Nat) (w : Wish) : List (Nat × Nat) := match own w.1 w.2 with
  | none => if w.2.isSome = true then [(k, k)] else []
  | some c => ws.zipIdx.flatMap fun p => if hit c p.1 = true then [(k, p.2)] else []
def bars (ws : List Wish) : List (Nat × Nat) := ws.zipIdx.flatMap fun p => barsAt ws p.2 p.1
def Ok (mm : Nat) (ws : List Wish) : Prop := ∀ w ∈ ws, w.1.length = mm
def bInner : Ss := .cons (.ite (.call 1 (.cons (.call 0 (.cons (.lend 4) (.cons (.idx (.idx (.var 1) (.var 5)) (.int 0)) .nil))) (.cons (.idx (.idx (.var 1) (.var 5)) (.int 1)) .nil))) (.cons (.ex (.mth .append (.root 2) (.cons (.tup (.cons (.mov 3) (.cons (.mov 5) .nil))) .nil))) .nil) .nil) .nil
theorem wD_imm (w : Wish) : (wD w).imm = true := by simp [wD, tO]
theorem immL_wD (ws : List Wish) : D.immL (ws.map wD) = true := immL_of fun x m => by obtain ⟨w, _, rfl⟩ := List.mem_map.mp m; exact wD_imm w
theorem zip_fst {c : List Int} {ts : List (Option Int)} (h : c.length = ts.length) : (c.zip ts).map (·.1) = c := by rw [List.map_fst_zip]; omega
theorem zip_snd {c : List Int} {ts : List (Option Int)} (h : c.length = ts.length) : (c.zip ts).map (·.2) = ts := by rw [List.map_snd_zip]; omega
theorem r_inner (n : Nat) (M : D) (ws : List Wish) (mm k j : Nat) (c : List Int) (acc : List D) (ok : Nat → Bool) (ok2 : ok 5 = true) (w : Wish) (hw : ws[j]? = some w) (hc : c.length = w.1.length) (hm : c.length ≤ 100) (hs : sel (c.zip w.1) ≠ []) (ha : acc.length ≤ 10000) (x : D) :
    (optO (stT ok (.nm 5) (.int (j : Int)) [M, .tup (ws.map wD), .lst acc, .int (k : Int), tD c, x]) fun ρ2 => evSs (fun g => pg.glb[g]?) (run pg fuel (n + 1)) fuel bInner ok ρ2) =
      .nx [M, .tup (ws.map wD), .lst (acc ++ (if hit c w = true then [pD (k, j)] else [])), .int (k : Int), tD c, .int (j : Int)] := by
  have ec : run pg fuel (n + 1) 0 [tD c, tO w.1] = .ok (oD (come (c.zip w.1))) [tD c, tO w.1] := by
    have := r_cause_time n (c.zip w.1) (by rw [List.length_zip]; omega) hs
    rw [zip_fst hc, zip_snd hc] at this
    exact this
  have ea := r_ahead n (come (c.zip w.1)) w.2
  have e1 : stT ok (.nm 5) (.int (j : Int)) [M, .tup (ws.map wD), .lst acc, .int (k : Int), tD c, x] = some [M, .tup (ws.map wD), .lst acc, .int (k : Int), tD c, .int (j : Int)] := by simp [stT, ok2]
  rw [e1, e_optO]
  unfold bInner
  have hn : (tD c).isNo = false := rfl
  have hi : (tO w.1).imm = true := by simp [tO]
  have i0 : D.item (wD w) (.int 0) = some (tO w.1) := rfl
  have i1 : D.item (wD w) (.int 1) = some (oD w.2) := rfl
  have hl : acc.length < line := Nat.lt_of_le_of_lt ha (by decide)
  simp [evS, hw, hn, hi, i0, i1, ec]
  rw [ea]
  unfold hit
  cases hh : ahead (come (c.zip w.1)) w.2 <;> simp [hl, pD]
theorem wDlen (ws : List Wish) : (ws.map wD).length = ws.length := List.length_map ..
theorem own_len {w : Wish} {c : List Int} (h : own w.1 w.2 = some c) : c.length = w.1.length ∧ ∃ x ∈ c, 0 ≤ x := by
  obtain ⟨ts, due⟩ := w
  cases due with
  | none => cases h
  | some d =>
    simp only [own, Option.bind_some] at h
    split at h
    · rename_i hv
      cases h
      refine ⟨by simp, ?_⟩
      cases hm : maxI (ts.map (ownF d)) with
      | none => rw [hm] at hv; exact absurd hv (by decide)
      | some v =>
        rw [hm] at hv
        exact ⟨v, (maxI_mem hm).1, hv⟩
    · cases h
theorem sel_ne {c : List Int} {ts : List (Option Int)} (hl : c.length = ts.length) (h : ∃ x ∈ c, 0 ≤ x) : sel (c.zip ts) ≠ [] := by
  obtain ⟨x, mx, hx⟩ := h
  obtain ⟨i, hi, e⟩ := List.getElem_of_mem mx
  intro z
  have hz : i < (c.zip ts).length := by rw [List.length_zip]; omega
  have : (c.zip ts)[i] ∈ sel (c.zip ts) := List.mem_filter.mpr ⟨List.getElem_mem hz, by simp [e, hx]⟩
  rw [z] at this; cases this
theorem r_outer (n : Nat) (M : D) (ws : List Wish) (mm k : Nat) (hok : ∀ w ∈ ws, w.1.length = mm) (h1 : 1 ≤ mm) (h2 : mm ≤ 100) (hsz : ws.length ≤ 40) (acc : List D) (ok : Nat → Bool) (o3 : ok 3 = true) (o4 : ok 4 = true) (o5 : ok 5 = true) (w : Wish) (hw : ws[k]? = some w) (ha : acc.length ≤ 41 * k) (x y z : D) :
    ∃ x' : D × D, (optO (stT ok (.nm 3) (.int (k : Int)) [M, .tup (ws.map wD), .lst acc, x, y, z]) fun ρ2 => evSs (fun g => pg.glb[g]?) (run pg fuel (n + 1)) fuel
      (.cons (.set (.nm 4) (.call 2 (.cons (.idx (.var 1) (.var 3)) .nil))) (.cons (.ite (.cmp .is (.var 4) .non) (.cons (.ex (.mth .extend (.root 2) (.cons (.ite (.cmp .isn (.idx (.idx (.var 1) (.var 3)) (.int 1)) .non) (.lst (.cons (.tup (.cons (.mov 3) (.cons (.mov 3) .nil))) .nil)) (.lst .nil)) .nil))) .nil) (.cons (.loop (.nm 5) (.rng1 (.blt .len (.cons (.var 1) .nil))) bInner) .nil)) .nil)) ok ρ2) =
      .nx [M, .tup (ws.map wD), .lst (acc ++ (barsAt ws k w).map pD), .int (k : Int), x'.1, x'.2] := by
  have hk : k < ws.length := (List.getElem?_eq_some_iff.mp hw).1
  have mw : w ∈ ws := List.mem_of_getElem? hw
  have hwne : w.1 ≠ [] := by intro e; have := hok w mw; rw [e] at this; simp at this; omega
  have ro := r_own_cause n w hwne
  have hi : (wD w).imm = true := wD_imm w
  have i1 : D.item (wD w) (.int 1) = some (oD w.2) := rfl
  have hl : acc.length + 1 ≤ line := small (by omega)
  cases ho : own w.1 w.2 with
  | none =>
    rw [ho] at ro
    have ro : run pg fuel (n + 1) 2 [wD w] = .ok .non [wD w] := ro
    cases hd : w.2 with
    | none =>
      have hb : barsAt ws k w = [] := by unfold barsAt; rw [ho, hd]; rfl
      exact ⟨(.non, z), by simp [o3, o4, hw, hi, i1, ro, hd, oD, hb, small (n := acc.length) (by omega)]⟩
    | some d =>
      have hb : barsAt ws k w = [(k, k)] := by unfold barsAt; rw [ho, hd]; rfl
      exact ⟨(.non, z), by simp [o3, o4, hw, hi, i1, ro, hd, oD, hb, hl, pD]⟩
  | some c =>
    rw [ho] at ro
    have ro : run pg fuel (n + 1) 2 [wD w] = .ok (tD c) [wD w] := ro
    obtain ⟨cl, cp⟩ := own_len ho
    have f1 : fits ws.length = true := fits_of (by omega)
    have f2 : rngOk (ws.length : Int) = true := rngOk_of (by omega) (by omega)
    have nt : (tD c).isNo = false := rfl
    have isn : Cmp.run .is (tD c) .non = some false := rfl
    obtain ⟨x', hx⟩ := forL_rng (turn := fun d ρ' => optO (stT ok (.nm 5) d ρ') fun ρ2 => evSs (fun g => pg.glb[g]?) (run pg fuel (n + 1)) fuel bInner ok ρ2) (fun acc x => [M, .tup (ws.map wD), .lst acc, .int (k : Int), tD c, x])
      (fun j v => if hit c v = true then [pD (k, j)] else []) (fun j a => a.length ≤ 41 * k + j) ws 0 acc z (by omega) (fun j v a y hj hI => by
        have mv := List.mem_of_getElem? hj
        have jl : j < ws.length := (List.getElem?_eq_some_iff.mp hj).1
        have cv : c.length = v.1.length := by rw [cl, hok w mw, hok v mv]
        refine ⟨by rw [List.length_append]; split <;> simp <;> omega, .int ((0 + j : Nat) : Int), .inl ?_⟩
        have := r_inner n M ws mm k j c a ok o5 v hj cv (by rw [cl, hok w mw]; omega) (sel_ne cv cp) (by omega) y
        rw [Nat.zero_add]
        exact this)
    rw [← rngL_0] at hx
    refine ⟨(tD c, x'), ?_⟩
    have hb : (barsAt ws k w).map pD = ws.zipIdx.flatMap fun p => if hit c p.1 = true then [pD (k, p.2)] else [] := by
      unfold barsAt
      rw [ho]
      show List.map pD (ws.zipIdx.flatMap fun p => if hit c p.1 = true then [(k, p.2)] else []) = _
      rw [List.map_flatMap]
      refine congrArg (fun f => ws.zipIdx.flatMap f) (funext fun p => ?_)
      cases hit c p.1 <;> simp
    rw [hb]
    simp [-u_loop, o3, o4, hw, hi, ro, nt, isn]
    rw [u_loop]
    simp [f1, f2]
    simp at hx
    rw [hx]
    simp
theorem barsAt_len (ws : List Wish) (k : Nat) (w : Wish) : (barsAt ws k w).length ≤ ws.length + 1 := by
  unfold barsAt
  split
  · split <;> simp
  · have : ∀ (l : List Wish) (off : Nat) (c : List Int), (l.zipIdx off |>.flatMap fun p => if hit c p.1 = true then [(k, p.2)] else []).length ≤ l.length := by
      intro l
      induction l with
      | nil => intro _ _; simp
      | cons a l ih =>
        intro off c
        simp only [List.zipIdx_cons, List.flatMap_cons, List.length_append, List.length_cons]
        have := ih (off + 1) c
        have h1 : (if hit c a = true then [(k, off)] else []).length ≤ 1 := by split <;> simp
        omega
    have := this ws 0 (by assumption)
    omega
theorem bars_len (ws : List Wish) : (bars ws).length ≤ (ws.length + 1) * ws.length := by
  have : ∀ (l : List Wish) (off : Nat), (l.zipIdx off |>.flatMap fun p => barsAt ws p.2 p.1).length ≤ (ws.length + 1) * l.length := by
    intro l
    induction l with
    | nil => intro _; simp
    | cons a l ih =>
      intro off
      simp only [List.zipIdx_cons, List.flatMap_cons, List.length_append, List.length_cons]
      have := ih (off + 1)
      have := barsAt_len ws off a
      rw [Nat.mul_succ]
      omega
  exact this ws 0
theorem immL_pD (ps : List (Nat × Nat)) : D.immL (ps.map pD) = true := immL_of fun x m => by obtain ⟨w, _, rfl⟩ := List.mem_map.mp m; rfl
structure Good (mm : Nat) (ws : List Wish) : Prop where
  ok : ∀ w ∈ ws, w.1.length = mm
  lo : 1 ≤ mm
  hi : mm ≤ 100
  sz : ws.length ≤ 40
theorem r_all_bars (n : Nat) (M : D) (hM : M.imm = true) (mm : Nat) (ws : List Wish) (g : Good mm ws) : run pg fuel (n + 2) f_all_bars [M, .tup (ws.map wD)] = .ok (.tup ((bars ws).map pD)) [M, .tup (ws.map wD)] := by
  show (evSs (fun g => pg.glb[g]?) (run pg fuel (n + 1)) fuel c_all_bars (okP [M, .tup (ws.map wD)]) [M, .tup (ws.map wD), .no, .no, .no, .no]).fin _ = _
  have o : ∀ i, 2 ≤ i → okP [M, .tup (ws.map wD)] i = true := fun i hi => by
    unfold okP
    rw [List.getElem?_eq_none (by simpa using hi)]
  have sz := g.sz
  have f1 : fits ws.length = true := fits_of (by omega)
  have f2 : rngOk (ws.length : Int) = true := rngOk_of (by omega) (by omega)
  obtain ⟨x', hx⟩ := forL_rng (turn := fun d ρ' => optO (stT (okP [M, .tup (ws.map wD)]) (.nm 3) d ρ') fun ρ2 => evSs (fun g => pg.glb[g]?) (run pg fuel (n + 1)) fuel
      (.cons (.set (.nm 4) (.call 2 (.cons (.idx (.var 1) (.var 3)) .nil))) (.cons (.ite (.cmp .is (.var 4) .non) (.cons (.ex (.mth .extend (.root 2) (.cons (.ite (.cmp .isn (.idx (.idx (.var 1) (.var 3)) (.int 1)) .non) (.lst (.cons (.tup (.cons (.mov 3) (.cons (.mov 3) .nil))) .nil)) (.lst .nil)) .nil))) .nil) (.cons (.loop (.nm 5) (.rng1 (.blt .len (.cons (.var 1) .nil))) bInner) .nil)) .nil)) (okP [M, .tup (ws.map wD)]) ρ2)
    (fun acc (x : D × D × D) => [M, .tup (ws.map wD), .lst acc, x.1, x.2.1, x.2.2]) (fun k w => (barsAt ws k w).map pD) (fun k a => a.length ≤ 41 * k) ws 0 [] (.no, .no, .no) (by simp) (fun k w a y hk hI => by
      have jl : k < ws.length := (List.getElem?_eq_some_iff.mp hk).1
      have bl := barsAt_len ws k w
      rw [Nat.zero_add] at hI ⊢
      refine ⟨by rw [List.length_append, List.length_map]; omega, ?_⟩
      obtain ⟨x', h⟩ := r_outer n M ws mm k g.ok g.lo g.hi g.sz a _ (o 3 (by omega)) (o 4 (by omega)) (o 5 (by omega)) w hk hI y.1 y.2.1 y.2.2
      exact ⟨(.int (k : Int), x'.1, x'.2), .inl h⟩)
  rw [← rngL_0] at hx
  unfold c_all_bars
  have hW : D.immL (ws.map wD) = true := immL_wD ws
  have hI : evI (fun g => pg.glb[g]?) (run pg fuel (n + 1)) (.rng1 (.blt .len (.cons (.var 1) .nil))) [M, .tup (ws.map wD), .lst [], .no, .no, .no] = .ok (rngL 0 (ws.length : Int), none) [M, .tup (ws.map wD), .lst [], .no, .no, .no] := by simp [f1, f2]
  simp only [List.nil_append] at hx
  have hbb : (ws.zipIdx.flatMap fun p => (barsAt ws p.2 p.1).map pD) = (bars ws).map pD := by unfold bars; rw [List.map_flatMap]
  rw [hbb] at hx
  simp [-u_loop, o]
  rw [u_loop, hI]
  simp only [e_o_ok, okBut_none]
  show O.fin _ (((forL (fun d ρ' => optO (stT (okP [M, .tup (ws.map wD)]) (.nm 3) d ρ') fun ρ2 => evSs (fun g => pg.glb[g]?) (run pg fuel (n + 1)) fuel
      (.cons (.set (.nm 4) (.call 2 (.cons (.idx (.var 1) (.var 3)) .nil))) (.cons (.ite (.cmp .is (.var 4) .non) (.cons (.ex (.mth .extend (.root 2) (.cons (.ite (.cmp .isn (.idx (.idx (.var 1) (.var 3)) (.int 1)) .non) (.lst (.cons (.tup (.cons (.mov 3) (.cons (.mov 3) .nil))) .nil)) (.lst .nil)) .nil))) .nil) (.cons (.loop (.nm 5) (.rng1 (.blt .len (.cons (.var 1) .nil))) bInner) .nil)) .nil)) (okP [M, .tup (ws.map wD)]) ρ2) (rngL 0 (ws.length : Int)) [M, .tup (ws.map wD), .lst [], .no, .no, .no]).thaw none).next _) = _
  rw [hx]
  simp [immL_pD, O.fin, fin, hM, hW]
/-! ### the two that ask -/
theorem r_bar_of (n : Nat) (M : D) (hM : M.imm = true) (hN : M.isNo = false) (mm : Nat) (ws : List Wish) (g : Good mm ws) : run pg fuel (n + 3) f_bar_of [M, .tup (ws.map wD)] = .ok (match (bars ws).head? with | some p => pD p | none => .non) [M, .tup (ws.map wD)] := by
  show (evSs (fun g => pg.glb[g]?) (run pg fuel (n + 2)) fuel c_bar_of (okP [M, .tup (ws.map wD)]) [M, .tup (ws.map wD), .no]).fin _ = _
  have ra := r_all_bars n M hM mm ws g
  have ra : run pg fuel (n + 2) 3 [M, .tup (ws.map wD)] = _ := ra
  have hW : D.immL (ws.map wD) = true := immL_wD ws
  have o : okP [M, .tup (ws.map wD)] 2 = true := rfl
  unfold c_bar_of
  cases hb : bars ws with
  | nil =>
    rw [hb] at ra
    simp [hN, ra, o, O.fin, fin, hM, hW]
  | cons p ps =>
    rw [hb] at ra
    have ip : (pD p).imm = true := rfl
    have i0 : D.item (.tup (pD p :: ps.map pD)) (.int 0) = some (pD p) := by have := item_nat (pD p :: ps.map pD) 0; exact this
    simp [hN, ra, o, O.fin, fin, hM, hW, immL_pD, ip, i0]
theorem r_can_meet (n : Nat) (M : D) (hM : M.imm = true) (hN : M.isNo = false) (mm : Nat) (ws : List Wish) (g : Good mm ws) : run pg fuel (n + 4) f_can_meet [M, .tup (ws.map wD)] = .ok (.bl (bars ws).isEmpty) [M, .tup (ws.map wD)] := by
  show (evSs (fun g => pg.glb[g]?) (run pg fuel (n + 3)) fuel c_can_meet (okP [M, .tup (ws.map wD)]) [M, .tup (ws.map wD)]).fin _ = _
  have ra := r_bar_of n M hM hN mm ws g
  have ra : run pg fuel (n + 3) 4 [M, .tup (ws.map wD)] = _ := ra
  have hW : D.immL (ws.map wD) = true := immL_wD ws
  unfold c_can_meet
  cases hb : bars ws with
  | nil =>
    rw [hb] at ra
    simp [hN, ra, O.fin, fin, hM, hW]
  | cons p ps =>
    rw [hb] at ra
    have isn : Cmp.run .is (pD p) .non = some false := rfl
    simp [hN, ra, O.fin, fin, hM, hW, isn]
/-! ### the jar -/
structure Jar where
  cur : Int
  ix : Nat
  turn : Int
  gs : List Int
  cs : List Int
def Jar.d (j : Jar) : D := .lst [.int j.cur, .int (j.ix : Int), .int j.turn, .lst (j.gs.map .int), .lst (j.cs.map .int)]
structure Jar.Ok (j : Jar) : Prop where
  cur : 0 ≤ j.cur
  gs : ∀ g ∈ j.gs, 0 ≤ g
  cs : j.cs ≠ []
def mix (t c : Int) : Int := ((c * 60017 + t * 70979 + 5507).fmod 1000133 * (c * 60017 + t * 70979 + 5507).fmod 1000133 + t * 257 + c * 9).fmod 899809343
def dip2 : Ss := (.cons (.ite (.cmp .gt (.idx (.var 0) (.int 0)) (.int 0)) (.cons (.set (.nm 6) (.bin .mod (.blt .int (.cons (.idx (.var 0) (.int 0)) .nil)) (.var 1))) (.cons (.put (.at (.root 0) (.int 0)) (.bin .fdiv (.idx (.var 0) (.int 0)) (.var 1))) (.cons (.ret (.mov 6)) .nil))) .nil) (.cons (.set (.nm 2) (.idx (.var 0) (.int 2))) (.cons (.set (.nm 3) (.idx (.idx (.var 0) (.int 4)) (.bin .mod (.blt .int (.cons (.var 2) .nil)) (.blt .len (.cons (.idx (.var 0) (.int 4)) .nil))))) (.cons (.set (.nm 4) (.bin .mod (.blt .int (.cons (.bin .add (.bin .add (.bin .mul (.var 3) (.int 60017)) (.bin .mul (.var 2) (.int 70979))) (.int 5507)) .nil)) (.int 1000133))) (.cons (.set (.nm 5) (.bin .mod (.blt .int (.cons (.bin .add (.bin .add (.bin .mul (.var 4) (.var 4)) (.bin .mul (.var 2) (.int 257))) (.bin .mul (.var 3) (.int 9))) .nil)) (.int 899809343))) (.cons (.ret (.bin .mod (.blt .int (.cons (.bin .fdiv (.var 5) (.int 256)) .nil)) (.var 1))) .nil))))))
theorem r_dip2 (gl : Nat → Option D) (call : Nat → List D → R D) (ok : Nat → Bool) (o : ∀ i, 2 ≤ i → ok i = true) (j : Jar) (hj : j.Ok) (m : Int) (h0 : 0 < m) (h1 : m < 1073741824) :
    ∃ (v : Int) (j' : Jar) (r : Env), 0 ≤ v ∧ v < m ∧ j'.Ok ∧ evSs gl call fuel dip2 ok [j.d, .int m, .no, .no, .no, .no, .no] = .rt (.int v) (j'.d :: .int m :: r) := by
  obtain ⟨cur, ix, turn, gs, cs⟩ := j
  have hm0 : m ≠ 0 := by omega
  have fm : ∀ (a : Int), 0 ≤ a.fmod m ∧ a.fmod m < m := fun a => ⟨Int.fmod_nonneg_of_pos a h0, Int.fmod_lt_of_pos a h0⟩
  have omod : ∀ a : Int, Op2.run .mod (.int a) (.int m) = some (.int (a.fmod m)) := fun a => o_mod hm0
  have odiv : ∀ a : Int, Op2.run .fdiv (.int a) (.int m) = some (.int (a.fdiv m)) := fun a => o_fdiv hm0 (by omega)
  by_cases hc : 0 < cur
  · refine ⟨cur.fmod m, ⟨cur.fdiv m, ix, turn, gs, cs⟩, [.no, .no, .no, .no, .int (cur.fmod m)], (fm cur).1, (fm cur).2, ⟨Int.fdiv_nonneg (by omega) (by omega), hj.gs, hj.cs⟩, ?_⟩
    unfold dip2
    simp [Jar.d, hc, omod, odiv, o]
  · obtain ⟨c, mc, hcell⟩ := item_mod hj.cs turn
    have hcell : D.item (.lst (cs.map .int)) (.int (turn.fmod (cs.length : Int))) = some (.int c) := hcell
    have hl : (cs.length : Int) ≠ 0 := by have := List.length_pos_iff.mpr hj.cs; simp at this ⊢; exact hj.cs
    have ol : ∀ a : Int, Op2.run .mod (.int a) (.int (cs.length : Int)) = some (.int (a.fmod cs.length)) := fun a => o_mod hl
    have m1 : ∀ a : Int, Op2.run .mul (.int a) (.int 60017) = some (.int (a * 60017)) := fun a => o_mul (by decide)
    have m2 : ∀ a : Int, Op2.run .mul (.int a) (.int 70979) = some (.int (a * 70979)) := fun a => o_mul (by decide)
    have m3 : ∀ a : Int, Op2.run .mul (.int a) (.int 257) = some (.int (a * 257)) := fun a => o_mul (by decide)
    have m4 : ∀ a : Int, Op2.run .mul (.int a) (.int 9) = some (.int (a * 9)) := fun a => o_mul (by decide)
    have d1 : ∀ a : Int, Op2.run .mod (.int a) (.int 1000133) = some (.int (a.fmod 1000133)) := fun a => o_mod (by decide)
    have d2 : ∀ a : Int, Op2.run .mod (.int a) (.int 899809343) = some (.int (a.fmod 899809343)) := fun a => o_mod (by decide)
    have d3 : ∀ a : Int, Op2.run .fdiv (.int a) (.int 256) = some (.int (a.fdiv 256)) := fun a => o_fdiv (by decide) (by decide)
    have sq : ∀ a : Int, Op2.run .mul (.int (a.fmod 1000133)) (.int (a.fmod 1000133)) = some (.int (a.fmod 1000133 * a.fmod 1000133)) := fun a => o_mul (by
      have q1 := Int.fmod_nonneg_of_pos a (b := 1000133) (by decide)
      have q2 := Int.fmod_lt_of_pos a (b := 1000133) (by decide)
      omega)
    refine ⟨((mix turn c).fdiv 256).fmod m, ⟨cur, ix, turn, gs, cs⟩, [.int turn, .int c, .int ((c * 60017 + turn * 70979 + 5507).fmod 1000133), .int (mix turn c), .no], (fm _).1, (fm _).2, hj, ?_⟩
    unfold dip2
    simp [Jar.d, hc, omod, o, hcell, ol, m1, m2, m3, m4, d1, d2, d3, sq, mix]
def dipA : S := (.put (.at (.root 0) (.int 2)) (.bin .add (.idx (.var 0) (.int 2)) (.int 1)))
def dipB : S := (.ite (.and (.cmp .eq (.idx (.var 0) (.int 0)) (.int 0)) (.cmp .lt (.idx (.var 0) (.int 1)) (.blt .len (.cons (.idx (.var 0) (.int 3)) .nil)))) (.cons (.put (.at (.root 0) (.int 0)) (.idx (.idx (.var 0) (.int 3)) (.idx (.var 0) (.int 1)))) (.cons (.put (.at (.root 0) (.int 1)) (.bin .add (.idx (.var 0) (.int 1)) (.int 1))) .nil)) .nil)
theorem r_dipA (gl : Nat → Option D) (call : Nat → List D → R D) (ok : Nat → Bool) (cur : Int) (ix : Nat) (turn : Int) (gs cs : List Int) (m : D) (r : Env) :
    evS gl call fuel dipA ok ((Jar.mk cur ix turn gs cs).d :: m :: r) = .nx ((Jar.mk cur ix (turn + 1) gs cs).d :: m :: r) := by
  unfold dipA
  simp [Jar.d]
theorem r_dipB (gl : Nat → Option D) (call : Nat → List D → R D) (ok : Nat → Bool) (cur : Int) (ix : Nat) (turn : Int) (gs cs : List Int) (m : D) (r : Env) (hc : ¬ (cur = 0 ∧ ix < gs.length)) :
    evS gl call fuel dipB ok ((Jar.mk cur ix turn gs cs).d :: m :: r) = .nx ((Jar.mk cur ix turn gs cs).d :: m :: r) := by
  unfold dipB
  by_cases h : cur = 0
  · have h2 : ¬ ix < gs.length := fun z => hc ⟨h, z⟩
    simp [Jar.d, h, h2]
  · simp [Jar.d, h]
theorem r_dipB2 (gl : Nat → Option D) (call : Nat → List D → R D) (ok : Nat → Bool) (ix : Nat) (turn : Int) (gs cs : List Int) (m : D) (r : Env) (hc : ix < gs.length) :
    evS gl call fuel dipB ok ((Jar.mk 0 ix turn gs cs).d :: m :: r) = .nx ((Jar.mk gs[ix] (ix + 1) turn gs cs).d :: m :: r) := by
  unfold dipB
  simp [Jar.d, hc]
theorem r_dip (n : Nat) (j : Jar) (hj : j.Ok) (m : Int) (h0 : 0 < m) (h1 : m < 1073741824) : ∃ (v : Int) (j' : Jar), 0 ≤ v ∧ v < m ∧ j'.Ok ∧ run pg fuel (n + 1) f__law_dip [j.d, .int m] = .ok (.int v) [j'.d, .int m] := by
  obtain ⟨cur, ix, turn, gs, cs⟩ := j
  have o : ∀ i, 2 ≤ i → okP [(Jar.mk cur ix turn gs cs).d, .int m] i = true := fun i hi => by
    unfold okP
    rw [List.getElem?_eq_none (by simpa using hi)]
  -- behind the first two statements
  obtain ⟨j1, ok1, e1⟩ : ∃ j1 : Jar, j1.Ok ∧ evSs (fun g => pg.glb[g]?) (run pg fuel n) fuel (.cons dipA (.cons dipB dip2)) (okP [(Jar.mk cur ix turn gs cs).d, .int m]) [(Jar.mk cur ix turn gs cs).d, .int m, .no, .no, .no, .no, .no] =
      evSs (fun g => pg.glb[g]?) (run pg fuel n) fuel dip2 (okP [(Jar.mk cur ix turn gs cs).d, .int m]) [j1.d, .int m, .no, .no, .no, .no, .no] := by
    rw [e_cons, r_dipA, e_nx, e_cons]
    by_cases hc : cur = 0 ∧ ix < gs.length
    · obtain ⟨rfl, hi⟩ := hc
      exact ⟨⟨gs[ix], ix + 1, turn + 1, gs, cs⟩, ⟨hj.gs _ (List.getElem_mem hi), hj.gs, hj.cs⟩, by rw [r_dipB2 _ _ _ _ _ _ _ _ _ hi, e_nx]⟩
    · exact ⟨⟨cur, ix, turn + 1, gs, cs⟩, ⟨hj.cur, hj.gs, hj.cs⟩, by rw [r_dipB _ _ _ _ _ _ _ _ _ _ hc, e_nx]⟩
  obtain ⟨v, j', r, a1, a2, a3, a4⟩ := r_dip2 (fun g => pg.glb[g]?) (run pg fuel n) _ o j1 ok1 m h0 h1
  refine ⟨v, j', a1, a2, a3, ?_⟩
  show (evSs (fun g => pg.glb[g]?) (run pg fuel n) fuel (.cons dipA (.cons dipB dip2)) (okP [(Jar.mk cur ix turn gs cs).d, .int m]) [(Jar.mk cur ix turn gs cs).d, .int m, .no, .no, .no, .no, .no]).fin _ = _
  rw [e1, a4]
  rfl
def absI (i : Int) : Int := if i < 0 then -i else i
def greats (ns : List Int) : List Int := (ns.filter fun i => decide (1000000000000000000 ≤ absI i)).map absI
theorem r_jar1 (gl : Nat → Option D) (call : Nat → List D → R D) (k : Bool) (ns : List Int) (a b c : D) :
    evM gl call (.comp (.blt .abs (.cons (.var 3) .nil)) (.nm 3) (.froz 0) (.cmp .ge (.blt .abs (.cons (.var 3) .nil)) (.int 1000000000000000000)) true [3]) .v [.rol k (ns.map .int), a, b, c] =
      .ok (.lst ((greats ns).map .int)) [.rol k (ns.map .int), a, b, .no] := by
  refine (comp_ok (fz := none) (ρ1 := [.rol k (ns.map .int), a, b, c]) (ds := ns.map .int) (fun x => match x with
    | .int t => if 1000000000000000000 ≤ absI t then some (.int (absI t)) else none
    | _ => none) ?_ ?_ rfl).trans ?_
  · simp [items, D.still]
  · intro x hx
    obtain ⟨t, _, rfl⟩ := List.mem_map.mp hx
    have ha : Blt.run .abs [.int t] = some (.int (absI t)) := rfl
    by_cases h : 1000000000000000000 ≤ absI t <;> simp [-abs_int, cturn, Ev.wipe, ha, h]
  · congr 2
    rw [List.filterMap_map]
    unfold greats
    induction ns with
    | nil => rfl
    | cons t ns ih => by_cases h : 1000000000000000000 ≤ absI t <;> simp [h] <;> simpa using ih
theorem r_jar2 (gl : Nat → Option D) (call : Nat → List D → R D) (k : Bool) (ns : List Int) (a b c : D) :
    evM gl call (.comp (.bin .mod (.blt .int (.cons (.var 3) .nil)) (.int 2147483543)) (.nm 3) (.froz 0) (.bl true) false [3]) .v [.rol k (ns.map .int), a, b, c] =
      .ok (.lst ((ns.map fun (i : Int) => i.fmod 2147483543).map .int)) [.rol k (ns.map .int), a, b, .no] := by
  have om : ∀ i : Int, Op2.run .mod (.int i) (.int 2147483543) = some (.int (i.fmod 2147483543)) := fun i => o_mod (by decide)
  refine (comp_ok (fz := none) (ρ1 := [.rol k (ns.map .int), a, b, c]) (ds := ns.map .int) (fun x => match x with
    | .int t => some (.int (t.fmod 2147483543))
    | _ => none) ?_ ?_ rfl).trans ?_
  · simp [items, D.still]
  · intro x hx
    obtain ⟨t, _, rfl⟩ := List.mem_map.mp hx
    simp [cturn, Ev.wipe, om]
  · congr 2
    rw [List.filterMap_map]
    induction ns with
    | nil => rfl
    | cons t ns ih => simp; simpa using ih
theorem r_jar (n : Nat) (k : Bool) (ns : List Int) (h : ns.length ≤ 63) : ∃ j : Jar, j.Ok ∧ run pg fuel (n + 1) f__law_jar [.rol k (ns.map .int)] = .ok j.d [.rol k (ns.map .int)] := by
  refine ⟨⟨0, 0, 0, greats ns, (ns.map fun (i : Int) => i.fmod 2147483543) ++ [91159]⟩, ⟨Int.le_refl _, fun g hg => ?_, by simp⟩, ?_⟩
  · obtain ⟨i, _, rfl⟩ := List.mem_map.mp hg
    show 0 ≤ absI i
    unfold absI
    split <;> omega
  · show (evSs (fun g => pg.glb[g]?) (run pg fuel n) fuel c__law_jar (okP [.rol k (ns.map .int)]) [.rol k (ns.map .int), .no, .no, .no]).fin _ = _
    have o : ∀ i, 1 ≤ i → okP [.rol k (ns.map .int)] i = true := fun i hi => by
      unfold okP
      rw [List.getElem?_eq_none (by simpa using hi)]
    have oadd : Op2.run .add (.lst ((ns.map fun (i : Int) => i.fmod 2147483543).map .int)) (.lst [.int 91159]) = some (.lst (((ns.map fun (i : Int) => i.fmod 2147483543) ++ [91159]).map .int)) := by
      show (if _ then _ else _) = _
      rw [if_pos ⟨small (by simp; omega), immL_ints _, rfl⟩, List.map_append]; rfl
    unfold c__law_jar
    rw [e_cons, u_set, r_jar1]
    simp only [e_o_ok, st_nm, List.length_cons, List.length_nil, o 1 (by omega)]
    simp only [Nat.reduceAdd, Nat.reduceLT, and_self, if_true, e_optO, e_nx, List.set_cons_succ, List.set_cons_zero]
    rw [e_cons, u_set, x_bin, b_comp, r_jar2]
    simp [-List.map_map, -List.map_append, o, oadd, Jar.d, O.fin, fin]
/-! ### the same thing is the same -/
def Sm : Nat → D → Prop
  | 0, x => x = .non ∨ (∃ b, x = .bl b) ∨ ∃ i, x = .int i
  | d + 1, x => (x = .non ∨ (∃ b, x = .bl b) ∨ ∃ i, x = .int i) ∨ ∃ xs, x = .tup xs ∧ xs.length ≤ 100000 ∧ ∀ y ∈ xs, Sm d y
theorem Sm.imm : ∀ (d : Nat) (x : D), Sm d x → x.imm = true
  | 0, x, h => by rcases h with rfl | ⟨b, rfl⟩ | ⟨i, rfl⟩ <;> rfl
  | d + 1, x, h => by
    rcases h with (rfl | ⟨b, rfl⟩ | ⟨i, rfl⟩) | ⟨xs, rfl, _, h⟩
    · rfl
    · rfl
    · rfl
    · rw [i_tup]; exact immL_of fun y m => Sm.imm d y (h y m)
theorem Sm.no {d : Nat} {x : D} (h : Sm d x) : x.isNo = false := by
  cases d with
  | zero => rcases h with rfl | ⟨b, rfl⟩ | ⟨i, rfl⟩ <;> rfl
  | succ d => rcases h with (rfl | ⟨b, rfl⟩ | ⟨i, rfl⟩) | ⟨xs, rfl, _, h⟩ <;> rfl
theorem r_same0 (n : Nat) (x : D) (h : x = .non ∨ (∃ b, x = .bl b) ∨ ∃ i, x = .int i) : run pg fuel (n + 1) f__law_same [x, x] = .ok (.bl true) [x, x] := by
  show (evSs (fun g => pg.glb[g]?) (run pg fuel n) fuel c__law_same (okP [x, x]) [x, x, .no]).fin _ = _
  unfold c__law_same
  rcases h with rfl | ⟨b, rfl⟩ | ⟨i, rfl⟩
  · simp [O.fin, fin]
  · simp [O.fin, fin]
  · simp [-u_loop, O.fin, fin]
theorem r_same : ∀ (d : Nat) (x : D), Sm d x → ∀ n, run pg fuel (n + d + 1) f__law_same [x, x] = .ok (.bl true) [x, x]
  | 0, x, h, n => r_same0 n x h
  | d + 1, x, h, n => by
    rcases h with h | ⟨xs, rfl, hl, h⟩
    · exact r_same0 _ x h
    · have hx : D.immL xs = true := immL_of fun y m => Sm.imm d y (h y m)
      have f1 : fits xs.length = true := fits_of (by omega)
      have f2 : rngOk (xs.length : Int) = true := rngOk_of (by omega) (by omega)
      have o : okP [.tup xs, .tup xs] 2 = true := rfl
      show (evSs (fun g => pg.glb[g]?) (run pg fuel (n + d + 1)) fuel c__law_same (okP [.tup xs, .tup xs]) [.tup xs, .tup xs, .no]).fin _ = _
      obtain ⟨ρ', e1, z, rfl⟩ := forL_inv (turn := fun dd ρ' => optO (stT (okP [.tup xs, .tup xs]) (.nm 2) dd ρ') fun ρ2 => evSs (fun g => pg.glb[g]?) (run pg fuel (n + d + 1)) fuel
        (.cons (.ite (.not (.call 8 (.cons (.idx (.var 0) (.var 2)) (.cons (.idx (.var 1) (.var 2)) .nil)))) (.cons (.ret (.bl false)) .nil) .nil) .nil) (okP [.tup xs, .tup xs]) ρ2)
        (fun _ ρ => ∃ z, ρ = [.tup xs, .tup xs, z]) (rngL 0 (xs.length : Int)) [.tup xs, .tup xs, .no] 0 ⟨_, rfl⟩ (fun k y ρ hk hp => by
          obtain ⟨z, rfl⟩ := hp
          rw [rngL_0, List.getElem?_map] at hk
          obtain ⟨q, hq, rfl⟩ := Option.map_eq_some_iff.mp hk
          have hq2 : q < xs.length := by have := List.mem_of_getElem? hq; simpa using this
          have sm := h _ (List.getElem_mem hq2)
          have rs := r_same d _ sm n
          have rs : run pg fuel (n + d + 1) 8 [xs[q], xs[q]] = .ok (.bl true) [xs[q], xs[q]] := rs
          refine ⟨[.tup xs, .tup xs, .int ((0 + q : Nat) : Int)], .inl ?_, _, rfl⟩
          simp [o, hq2, Sm.imm d _ sm, rs])
      have hI : evI (fun g => pg.glb[g]?) (run pg fuel (n + d + 1)) (.rng1 (.blt .len (.cons (.var 1) .nil))) [.tup xs, .tup xs, .no] = .ok (rngL 0 (xs.length : Int), none) [.tup xs, .tup xs, .no] := by simp [f1, f2]
      have hlp : evS (fun g => pg.glb[g]?) (run pg fuel (n + d + 1)) fuel (.loop (.nm 2) (.rng1 (.blt .len (.cons (.var 1) .nil))) (.cons (.ite (.not (.call 8 (.cons (.idx (.var 0) (.var 2)) (.cons (.idx (.var 1) (.var 2)) .nil)))) (.cons (.ret (.bl false)) .nil) .nil) .nil)) (okP [.tup xs, .tup xs]) [.tup xs, .tup xs, .no] = .nx [.tup xs, .tup xs, z] := by
        rw [u_loop, hI]
        simp only [e_o_ok, okBut_none]
        rw [e1, thaw_nx]
      unfold c__law_same
      simp [-u_loop, hlp, O.fin, fin, hx]
theorem sm_pD (p : Nat × Nat) : Sm 1 (pD p) := .inr ⟨_, rfl, by simp, fun y m => by simp at m; rcases m with rfl | rfl <;> exact .inr (.inr ⟨_, rfl⟩)⟩
theorem sm_bars (mm : Nat) (ws : List Wish) (g : Good mm ws) : Sm 2 (.tup ((bars ws).map pD)) := .inr ⟨_, rfl, by
  have := bars_len ws
  have h := g.sz
  have : (ws.length + 1) * ws.length ≤ 41 * 40 := Nat.mul_le_mul (by omega) h
  rw [List.length_map]; omega, fun y m => by obtain ⟨p, _, rfl⟩ := List.mem_map.mp m; exact sm_pD p⟩
theorem r_asked (n : Nat) (m : Int) (mm : Nat) (ws : List Wish) (g : Good mm ws) : run pg fuel (n + 6) f__law_asked [.int m, .tup (ws.map wD), .tup ((bars ws).map pD)] = .ok (.bl true) [.int m, .tup (ws.map wD), .tup ((bars ws).map pD)] := by
  show (evSs (fun g => pg.glb[g]?) (run pg fuel (n + 5)) fuel c__law_asked (okP [.int m, .tup (ws.map wD), .tup ((bars ws).map pD)]) [.int m, .tup (ws.map wD), .tup ((bars ws).map pD), .no]).fin _ = _
  have hW : D.immL (ws.map wD) = true := immL_wD ws
  have hB : D.immL ((bars ws).map pD) = true := immL_pD _
  have o : okP [.int m, .tup (ws.map wD), .tup ((bars ws).map pD)] 3 = true := rfl
  have a1 : run pg fuel (n + 5) 3 [.int m, .tup (ws.map wD)] = _ := r_all_bars (n + 3) (.int m) rfl mm ws g
  have a2 : run pg fuel (n + 5) 4 [.int m, .tup (ws.map wD)] = _ := r_bar_of (n + 2) (.int m) rfl rfl mm ws g
  have a3 : run pg fuel (n + 5) 5 [.int m, .tup (ws.map wD)] = _ := r_can_meet (n + 1) (.int m) rfl rfl mm ws g
  have s1 : run pg fuel (n + 5) 8 [.tup ((bars ws).map pD), .tup ((bars ws).map pD)] = _ := r_same 2 _ (sm_bars mm ws g) (n + 2)
  have s2 : ∀ b, run pg fuel (n + 5) 8 [.bl b, .bl b] = _ := fun b => r_same0 (n + 4) (.bl b) (.inr (.inl ⟨b, rfl⟩))
  have s3 : run pg fuel (n + 5) 8 [.non, .non] = _ := r_same0 (n + 4) .non (.inl rfl)
  have s4 : ∀ p, run pg fuel (n + 5) 8 [pD p, pD p] = _ := fun p => r_same 1 _ (sm_pD p) (n + 3)
  unfold c__law_asked
  cases hb : bars ws with
  | nil =>
    rw [hb] at a1 a2 a3 s1 o
    have s1 : run pg fuel (n + 5) 8 [.tup [], .tup []] = .ok (.bl true) [.tup [], .tup []] := s1
    have st := s2 true
    simp [a1, a2, a3, s1, s3, st, O.fin, fin, hW, okP]
  | cons p ps =>
    rw [hb] at a1 a2 a3 s1 o hB
    have ip : (pD p).imm = true := rfl
    have np : (pD p).isNo = false := rfl
    have hp : D.immL (ps.map pD) = true := immL_pD _
    have st := s2 false
    simp at s1
    have dz : decide ((ps.length : Int) + 1 = 0) = false := decide_eq_false (by omega)
    simp [a1, a2, a3, s1, s4, st, O.fin, fin, hW, okP, ip, np, hp, dz]
/-! ### drawn rows -/
def bTimes : Ss := (.cons (.set (.nm 5) (.call 7 (.cons (.lend 0) (.cons (.lend 2) .nil)))) (.cons (.ite (.cmp .eq (.call 7 (.cons (.lend 0) (.cons (.int 5) .nil))) (.int 4)) (.cons (.set (.nm 5) .non) .nil) .nil) (.cons (.ex (.mth .append (.root 3) (.cons (.mov 5) .nil))) .nil)))
theorem r_times (n : Nat) (j : Jar) (hj : j.Ok) (mm : Nat) (h0 : mm ≤ 100) (great : Int) (g0 : 0 < great) (g1 : great < 1073741824) :
    ∃ (ts : List (Option Int)) (j' : Jar), ts.length = mm ∧ (∀ v, some v ∈ ts → 0 ≤ v) ∧ j'.Ok ∧ run pg fuel (n + 2) f__law_times [j.d, .int (mm : Int), .int great] = .ok (tO ts) [j'.d, .int (mm : Int), .int great] := by
  have o : ∀ i, 3 ≤ i → okP [j.d, .int (mm : Int), .int great] i = true := fun i hi => by
    unfold okP
    rw [List.getElem?_eq_none (by simpa using hi)]
  have jn : ∀ j : Jar, j.d.isNo = false := fun _ => rfl
  obtain ⟨ρ', e1, j', ts, x, y, rfl, p1, p2, p3⟩ := forL_inv (turn := fun dd ρ' => optO (stT (okP [j.d, .int (mm : Int), .int great]) (.nm 4) dd ρ') fun ρ2 => evSs (fun g => pg.glb[g]?) (run pg fuel (n + 1)) fuel bTimes (okP [j.d, .int (mm : Int), .int great]) ρ2)
    (fun i ρ => ∃ (j' : Jar) (ts : List (Option Int)) (x y : D), ρ = [j'.d, .int (mm : Int), .int great, .lst (ts.map oD), x, y] ∧ j'.Ok ∧ ts.length = i ∧ (∀ v, some v ∈ ts → 0 ≤ v)) (rngL 0 (mm : Int)) [j.d, .int (mm : Int), .int great, .lst [], .no, .no] 0 ⟨j, [], _, _, rfl, hj, rfl, by simp⟩ (fun k q ρ hk hp => by
      obtain ⟨j1, ts, x, y, rfl, p1, p2, p3⟩ := hp
      have hkm : k < mm := by
        have := (List.getElem?_eq_some_iff.mp hk).1
        rw [rngL_0] at this
        simpa using this
      obtain ⟨v1, j2, a1, a2, a3, a4⟩ := r_dip n j1 p1 great g0 g1
      obtain ⟨v2, j3, b1, b2, b3, b4⟩ := r_dip n j2 a3 5 (by decide) (by decide)
      have a4 : run pg fuel (n + 1) 7 [j1.d, .int great] = _ := a4
      have b4 : run pg fuel (n + 1) 7 [j2.d, .int 5] = _ := b4
      have hl : (ts.length : Nat) < line := Nat.lt_of_le_of_lt (show ts.length ≤ 100 by omega) (by decide)
      by_cases h : v2 = 4
      · refine ⟨_, .inl (?_ : _ = O.nx [j3.d, .int (mm : Int), .int great, .lst ((ts ++ [none]).map oD), q, .non]), j3, ts ++ [none], q, .non, rfl, b3, by simp; omega, fun v mv => p3 v (by simpa using mv)⟩
        unfold bTimes
        simp [o, jn, a4, b4, h, hl, oD]
      · refine ⟨_, .inl (?_ : _ = O.nx [j3.d, .int (mm : Int), .int great, .lst ((ts ++ [some v1]).map oD), q, .int v1]), j3, ts ++ [some v1], q, .int v1, rfl, b3, by simp; omega, fun v mv => by
          rcases List.mem_append.mp mv with z | z
          · exact p3 v z
          · have : v = v1 := by simpa using z
            rw [this]; exact a1⟩
        unfold bTimes
        simp [o, jn, a4, b4, h, hl, oD])
  have p2' : ts.length = mm := by rw [rngL_0, List.length_map, List.length_range] at p2; omega
  refine ⟨ts, j', p2', p3, p1, ?_⟩
  rw [show n + 2 = (n + 1) + 1 from rfl, run_eq (df := d__law_times) rfl rfl (by decide)]
  rw [show ([j.d, .int (mm : Int), .int great] ++ List.replicate (d__law_times.ns - d__law_times.ps) D.no) = [j.d, .int (mm : Int), .int great, .no, .no, .no] from rfl, show d__law_times.body = c__law_times from rfl]
  have hI : evI (fun g => pg.glb[g]?) (run pg fuel (n + 1)) (.rng1 (.var 1)) [j.d, .int (mm : Int), .int great, .lst [], .no, .no] = .ok (rngL 0 (mm : Int), none) [j.d, .int (mm : Int), .int great, .lst [], .no, .no] := by
    simp [rngOk_of (i := (mm : Int)) (by omega) (by omega), fits_of (n := mm) (by omega)]
  have hlp : evS (fun g => pg.glb[g]?) (run pg fuel (n + 1)) fuel (.loop (.nm 4) (.rng1 (.var 1)) bTimes) (okP [j.d, .int (mm : Int), .int great]) [j.d, .int (mm : Int), .int great, .lst [], .no, .no] = .nx [j'.d, .int (mm : Int), .int great, .lst (ts.map oD), x, y] := by
    rw [u_loop, hI]
    simp only [e_o_ok, okBut_none]
    rw [e1, thaw_nx]
  unfold bTimes at hlp
  unfold c__law_times
  have ji : ∀ j : Jar, j.d.imm = false := fun _ => rfl
  have hs : evS (fun g => pg.glb[g]?) (run pg fuel (n + 1)) fuel (.set (.nm 3) (.lst .nil)) (okP [j.d, .int (mm : Int), .int great]) [j.d, .int (mm : Int), .int great, .no, .no, .no] = .nx [j.d, .int (mm : Int), .int great, .lst [], .no, .no] := by simp [o]
  rw [e_cons, hs, e_nx, e_cons, hlp, e_nx, e_cons, u_ret]
  have hr : evM (fun g => pg.glb[g]?) (run pg fuel (n + 1)) (.blt .tuple (.cons (.var 3) .nil)) .v [j'.d, .int (mm : Int), .int great, .lst (ts.map oD), x, y] = .ok (tO ts) [j'.d, .int (mm : Int), .int great, .lst (ts.map oD), x, y] := by simp [tO]
  rw [hr, e_o_ok, e_rt]
  rfl
/-! ### the law's own time of a cause -/
def bCome : Ss := (.cons (.ite (.cmp .ge (.idx (.var 0) (.var 3)) (.int 0)) (.cons (.ite (.cmp .is (.idx (.var 1) (.var 3)) .non) (.cons (.ret .non) .nil) .nil) (.cons (.ite (.or (.cmp .is (.var 2) .non) (.cmp .gt (.bin .add (.idx (.var 1) (.var 3)) (.idx (.var 0) (.var 3))) (.var 2))) (.cons (.set (.nm 2) (.bin .add (.idx (.var 1) (.var 3)) (.idx (.var 0) (.var 3)))) .nil) .nil) .nil)) .nil) .nil)
/-- none: the def has answered None -/
def lcF : List (Int × Option Int) → Option Int → Option (Option Int)
  | [], a => some a
  | z :: zs, a => if 0 ≤ z.1 then match z.2 with
    | none => none
    | some t => lcF zs (match a with
      | none => some (t + z.1)
      | some b => if t + z.1 > b then some (t + z.1) else some b)
    else lcF zs a
theorem come_loop (gl : Nat → Option D) (call : Nat → List D → R D) (ok : Nat → Bool) (o2 : ok 2 = true) (o3 : ok 3 = true) (C T : D) (nC : C.isNo = false) (nT : T.isNo = false) (zs0 : List (Int × Option Int))
    (iC : ∀ (k : Nat) z, zs0[k]? = some z → D.item C (.int (k : Int)) = some (.int z.1)) (iT : ∀ (k : Nat) z, zs0[k]? = some z → D.item T (.int (k : Int)) = some (oD z.2)) :
    ∀ (zs : List (Int × Option Int)) (off : Nat) (a : Option Int) (x : D), zs0.drop off = zs →
      ∃ (a' : Option Int) (x' : D), forL (fun dd ρ' => optO (stT ok (.nm 3) dd ρ') fun ρ2 => evSs gl call fuel bCome ok ρ2) ((List.range zs.length).map fun (k : Nat) => D.int ((off + k : Nat) : Int)) [C, T, oD a, x] =
        match lcF zs a with
        | none => .rt .non [C, T, oD a', x']
        | some r => .nx [C, T, oD r, x']
  | [], off, a, x, _ => ⟨a, x, rfl⟩
  | z :: zs, off, a, x, h => by
    have hz : zs0[off]? = some z := by
      have := congrArg (fun l => l[0]?) h
      simpa using this
    have hd : zs0.drop (off + 1) = zs := by
      have := congrArg List.tail h
      simpa using this
    have ic := iC off z hz
    have it := iT off z hz
    have noD : ∀ o : Option Int, (oD o).isNo = false := fun o => oD_no o
    rw [List.length_cons, List.range_succ_eq_map, List.map_cons, List.map_map]
    have e2 : (List.map ((fun (k : Nat) => D.int ((off + k : Nat) : Int)) ∘ Nat.succ) (List.range zs.length)) = (List.range zs.length).map fun (k : Nat) => D.int ((off + 1 + k : Nat) : Int) := by
      congr 1
      funext k
      show D.int _ = D.int _
      rw [show off + Nat.succ k = off + 1 + k by omega]
    rw [e2, forL]
    obtain ⟨c, t⟩ := z
    by_cases hc : 0 ≤ c
    · cases t with
      | none =>
        refine ⟨a, .int (off : Int), ?_⟩
        have e : (optO (stT ok (.nm 3) (.int ((off + 0 : Nat) : Int)) [C, T, oD a, x]) fun ρ2 => evSs gl call fuel bCome ok ρ2) = .rt .non [C, T, oD a, .int (off : Int)] := by
          unfold bCome
          simp [o2, o3, nC, nT, ic, it, hc, oD]
        rw [e]
        simp [lcF, hc, O.turn]
      | some t =>
        have e : (optO (stT ok (.nm 3) (.int ((off + 0 : Nat) : Int)) [C, T, oD a, x]) fun ρ2 => evSs gl call fuel bCome ok ρ2) = .nx [C, T, oD (match a with | none => some (t + c) | some b => if t + c > b then some (t + c) else some b), .int (off : Int)] := by
          unfold bCome
          cases a with
          | none => simp [o2, o3, nC, nT, ic, it, hc, oD]
          | some b => by_cases hb : b < t + c <;> simp [o2, o3, nC, nT, ic, it, hc, oD, hb]
        rw [e]
        obtain ⟨a', x', hr⟩ := come_loop gl call ok o2 o3 C T nC nT zs0 iC iT zs (off + 1) _ (.int (off : Int)) hd
        refine ⟨a', x', ?_⟩
        show forL _ _ _ = _
        rw [hr]
        simp [lcF, hc]
    · have e : (optO (stT ok (.nm 3) (.int ((off + 0 : Nat) : Int)) [C, T, oD a, x]) fun ρ2 => evSs gl call fuel bCome ok ρ2) = .nx [C, T, oD a, .int (off : Int)] := by
        unfold bCome
        simp [o2, o3, nC, nT, ic, it, hc]
      rw [e]
      obtain ⟨a', x', hr⟩ := come_loop gl call ok o2 o3 C T nC nT zs0 iC iT zs (off + 1) a (.int (off : Int)) hd
      refine ⟨a', x', ?_⟩
      show forL _ _ _ = _
      rw [hr]
      simp [lcF, hc]
theorem sel_pos {c : Int} (h : 0 ≤ c) (t : Option Int) (zs : List (Int × Option Int)) : sel ((c, t) :: zs) = (c, t) :: sel zs := by unfold sel; rw [List.filter_cons, if_pos (by simpa using h)]
theorem sel_neg {c : Int} (h : ¬ 0 ≤ c) (t : Option Int) (zs : List (Int × Option Int)) : sel ((c, t) :: zs) = sel zs := by unfold sel; rw [List.filter_cons, if_neg (by simpa using h)]
theorem lcF_some : ∀ (zs : List (Int × Option Int)) (b : Int), lcF zs (some b) = if (sel zs).any (fun z => z.2.isNone) then none else some (some (((sel zs).map fun z => z.2.getD 0 + z.1).foldl max b))
  | [], b => rfl
  | (c, t) :: zs, b => by
    by_cases hc : 0 ≤ c
    · cases t with
      | none => rw [sel_pos hc]; simp [lcF, hc]
      | some t =>
        have hm : (match some b with | none => some (t + c) | some b => if t + c > b then some (t + c) else some b) = some (max b (t + c)) := by
          show (if t + c > b then some (t + c) else some b) = _
          split <;> congr 1 <;> omega
        have e : lcF ((c, some t) :: zs) (some b) = lcF zs (some (max b (t + c))) := by
          show (if 0 ≤ c then lcF zs (match some b with | none => some (t + c) | some b => if t + c > b then some (t + c) else some b) else _) = _
          rw [if_pos hc, hm]
        rw [e, lcF_some zs, sel_pos hc]
        rfl
    · have e : lcF ((c, t) :: zs) (some b) = lcF zs (some b) := if_neg hc
      rw [e, lcF_some zs, sel_neg hc]
theorem lcF_none : ∀ (zs : List (Int × Option Int)), lcF zs none = if (sel zs).any (fun z => z.2.isNone) then none else some (maxI ((sel zs).map fun z => z.2.getD 0 + z.1))
  | [] => rfl
  | (c, t) :: zs => by
    by_cases hc : 0 ≤ c
    · cases t with
      | none => rw [sel_pos hc]; simp [lcF, hc]
      | some t =>
        have e : lcF ((c, some t) :: zs) none = lcF zs (some (t + c)) := if_pos hc
        rw [e, lcF_some zs, sel_pos hc]
        rfl
    · have e : lcF ((c, t) :: zs) none = lcF zs none := if_neg hc
      rw [e, lcF_none zs, sel_neg hc]
/-- _law_come: of a tuple or a list -/
theorem r_come (n : Nat) (c : List Int) (ts : List (Option Int)) (hl : c.length = ts.length) (hz : c.length ≤ 100) (C : D) (hC : C = tD c ∨ C = .lst (c.map .int)) :
    run pg fuel (n + 1) f__law_come [C, tO ts] = .ok (oD (come (c.zip ts))) [C, tO ts] := by
  have zl : (c.zip ts).length = c.length := by rw [List.length_zip]; omega
  have nC : C.isNo = false := by rcases hC with rfl | rfl <;> rfl
  have iC : ∀ (k : Nat) z, (c.zip ts)[k]? = some z → D.item C (.int (k : Int)) = some (.int z.1) := by
    intro k z hk
    have h1 : c[k]? = some z.1 := by rw [List.getElem?_zip_eq_some] at hk; exact hk.1
    rcases hC with rfl | rfl
    · show D.item (.tup (c.map .int)) _ = _
      rw [item_nat, List.getElem?_map, h1]; rfl
    · rw [item_natL, List.getElem?_map, h1]; rfl
  have iT : ∀ (k : Nat) z, (c.zip ts)[k]? = some z → D.item (tO ts) (.int (k : Int)) = some (oD z.2) := by
    intro k z hk
    have h1 : ts[k]? = some z.2 := by rw [List.getElem?_zip_eq_some] at hk; exact hk.2
    show D.item (.tup (ts.map oD)) _ = _
    rw [item_nat, List.getElem?_map, h1]; rfl
  have hlen : Blt.run .len [C] = some (.int (c.length : Int)) := by
    rcases hC with rfl | rfl
    · show Blt.run .len [.tup (c.map .int)] = _
      rw [len_tup, List.length_map]
    · rw [len_lst, List.length_map]
  have o2 : okP [C, tO ts] 2 = true := rfl
  have o3 : okP [C, tO ts] 3 = true := rfl
  obtain ⟨a', x', hr⟩ := come_loop (fun g => pg.glb[g]?) (run pg fuel n) (okP [C, tO ts]) o2 o3 C (tO ts) nC rfl (c.zip ts) iC iT (c.zip ts) 0 none .no rfl
  rw [← rngL_0, zl] at hr
  rw [run_eq (df := d__law_come) rfl rfl (by decide)]
  rw [show ([C, tO ts] ++ List.replicate (d__law_come.ns - d__law_come.ps) D.no) = [C, tO ts, .no, .no] from rfl, show d__law_come.body = c__law_come from rfl]
  have hs : evS (fun g => pg.glb[g]?) (run pg fuel n) fuel (.set (.nm 2) .non) (okP [C, tO ts]) [C, tO ts, .no, .no] = .nx [C, tO ts, oD none, .no] := by simp [o2, oD]
  have hI : evI (fun g => pg.glb[g]?) (run pg fuel n) (.rng1 (.blt .len (.cons (.var 0) .nil))) [C, tO ts, oD none, .no] = .ok (rngL 0 (c.length : Int), none) [C, tO ts, oD none, .no] := by
    simp [nC, hlen, rngOk_of (i := (c.length : Int)) (by omega) (by omega), fits_of (n := c.length) (by omega)]
  have hlp : evS (fun g => pg.glb[g]?) (run pg fuel n) fuel (.loop (.nm 3) (.rng1 (.blt .len (.cons (.var 0) .nil))) bCome) (okP [C, tO ts]) [C, tO ts, oD none, .no] = match lcF (c.zip ts) none with
        | none => .rt .non [C, tO ts, oD a', x']
        | some r => .nx [C, tO ts, oD r, x'] := by
    rw [u_loop, hI]
    simp only [e_o_ok, okBut_none]
    rw [hr]
    cases lcF (c.zip ts) none <;> rfl
  unfold bCome at hlp
  unfold c__law_come
  rw [e_cons, hs, e_nx, e_cons, hlp, lcF_none]
  have fin2 : ∀ (d : D) (r : Env), (O.rt d (C :: tO ts :: r)).fin [C, tO ts] = .ok d [C, tO ts] := fun d r => by
    show R.ok d [if C.imm = true then C else C, if (tO ts).imm = true then tO ts else tO ts] = _
    simp
  by_cases hn : (sel (c.zip ts)).any (fun z => z.2.isNone) = true
  · rw [if_pos hn]
    simp only [e_rt]
    rw [fin2]
    unfold come
    rw [if_pos hn]; rfl
  · rw [if_neg hn]
    simp only [e_nx]
    have hr2 : evM (fun g => pg.glb[g]?) (run pg fuel n) (.mov 2) .v [C, tO ts, oD (maxI ((sel (c.zip ts)).map fun z => z.2.getD 0 + z.1)), x'] = .ok (oD (maxI ((sel (c.zip ts)).map fun z => z.2.getD 0 + z.1))) [C, tO ts, oD (maxI ((sel (c.zip ts)).map fun z => z.2.getD 0 + z.1)), x'] := by simp
    rw [e_cons, u_ret, hr2, e_o_ok, e_rt, fin2]
    unfold come
    rw [if_neg hn]
def Fits (mm : Nat) (cs : List (List Int)) : Prop := ∀ c ∈ cs, c.length = mm
def times (cs : List (List Int)) (ts : List (Option Int)) : List Int := cs.filterMap fun c => come (c.zip ts)
theorem immL_tD (cs : List (List Int)) : D.immL (cs.map tD) = true := immL_of fun x m => by obtain ⟨c, _, rfl⟩ := List.mem_map.mp m; show D.immL (c.map .int) = true; simp
theorem r_lt1 (n : Nat) (cs : List (List Int)) (ts : List (Option Int)) (hf : Fits ts.length cs) (hz : ts.length ≤ 100) (a b c d : D) :
    evM (fun g => pg.glb[g]?) (run pg fuel (n + 1)) (.comp (.call 9 (.cons (.lend 4) (.cons (.lend 1) .nil))) (.nm 4) (.froz 0) (.bl true) false [4]) .v [.lst (cs.map tD), tO ts, a, b, c, d] =
      .ok (.lst ((cs.map fun c => come (c.zip ts)).map oD)) [.lst (cs.map tD), tO ts, a, b, .no, d] := by
  refine (comp_ok (fz := some 0) (ρ1 := [.rol false (cs.map tD), tO ts, a, b, c, d]) (ds := cs.map tD) (fun x => match x with
    | .tup xs => match D.ints xs with
      | some ns => some (oD (come (ns.zip ts)))
      | none => none
    | _ => none) ?_ ?_ rfl).trans ?_
  · simp [items, D.still, immL_tD]
  · intro x hx
    obtain ⟨c, mc, rfl⟩ := List.mem_map.mp hx
    have rc : run pg fuel (n + 1) 9 [tD c, tO ts] = _ := r_come n c ts (hf c mc) (by rw [hf c mc]; exact hz) (tD c) (.inl rfl)
    have nt : (tD c).isNo = false := rfl
    have nT : (tO ts).isNo = false := rfl
    have e : (match tD c with | .tup xs => (match D.ints xs with | some ns => some (oD (come (ns.zip ts))) | none => none) | _ => none) = some (oD (come (c.zip ts))) := by
      show (match D.ints (c.map .int) with | some ns => some (oD (come (ns.zip ts))) | none => none) = _
      rw [ints_map]
    simp [cturn, Ev.wipe, nt, nT, rc]
    exact e.symm
  · congr 2
    rw [List.filterMap_map]
    induction cs with
    | nil => rfl
    | cons c cs ih =>
      have := ih fun c m => hf c (List.mem_cons_of_mem _ m)
      simp [tD, ints_map]
      simpa [tD] using this
theorem r_lt2 (gl : Nat → Option D) (call : Nat → List D → R D) (os : List (Option Int)) (A B a b c : D) :
    evM gl call (.comp (.var 5) (.nm 5) (.froz 2) (.cmp .isn (.var 5) .non) true [5]) .v [A, B, .lst (os.map oD), a, b, c] =
      .ok (.lst ((os.filterMap id).map .int)) [A, B, .lst (os.map oD), a, b, .no] := by
  refine (comp_ok (fz := some 2) (ρ1 := [A, B, .rol false (os.map oD), a, b, c]) (ds := os.map oD) (fun x => match x with
    | .int t => some (.int t)
    | _ => none) ?_ ?_ rfl).trans ?_
  · simp [items, D.still]
  · intro x hx
    obtain ⟨o, _, rfl⟩ := List.mem_map.mp hx
    cases o <;> simp [cturn, Ev.wipe, oD]
  · congr 2
    rw [List.filterMap_map]
    induction os with
    | nil => rfl
    | cons o os ih => cases o <;> simp [oD] <;> exact ih
theorem r_time (n : Nat) (cs : List (List Int)) (ts : List (Option Int)) (hf : Fits ts.length cs) (hz : ts.length ≤ 100) :
    run pg fuel (n + 2) f__law_time [.lst (cs.map tD), tO ts] = .ok (oD (minI (times cs ts))) [.lst (cs.map tD), tO ts] := by
  rw [show n + 2 = (n + 1) + 1 from rfl, run_eq (df := d__law_time) rfl rfl (by decide)]
  rw [show ([.lst (cs.map tD), tO ts] ++ List.replicate (d__law_time.ns - d__law_time.ps) D.no) = [.lst (cs.map tD), tO ts, .no, .no, .no, .no] from rfl, show d__law_time.body = c__law_time from rfl]
  have o2 : okP [.lst (cs.map tD), tO ts] 2 = true := rfl
  have o3 : okP [.lst (cs.map tD), tO ts] 3 = true := rfl
  have et : (cs.map fun c => come (c.zip ts)).filterMap id = times cs ts := by unfold times; rw [List.filterMap_map]; rfl
  unfold c__law_time
  rw [e_cons, u_set, r_lt1 n cs ts hf hz, e_o_ok]
  have s1 : ∀ x, stT (okP [.lst (cs.map tD), tO ts]) (.nm 2) x [.lst (cs.map tD), tO ts, .no, .no, .no, .no] = some [.lst (cs.map tD), tO ts, x, .no, .no, .no] := fun x => by simp [o2]
  rw [s1, e_optO, e_nx, e_cons, u_set, r_lt2, e_o_ok, et]
  have s2 : ∀ x y, stT (okP [.lst (cs.map tD), tO ts]) (.nm 3) x [.lst (cs.map tD), tO ts, y, .no, .no, .no] = some [.lst (cs.map tD), tO ts, y, x, .no, .no] := fun x y => by simp [o3]
  rw [s2, e_optO, e_nx]
  have fin2 : ∀ (d : D) (r : Env), (O.rt d (.lst (cs.map tD) :: tO ts :: r)).fin [.lst (cs.map tD), tO ts] = .ok d [.lst (cs.map tD), tO ts] := fun d r => by
    show R.ok d [_, if (tO ts).imm = true then tO ts else tO ts] = _
    simp
  by_cases hm : times cs ts = []
  · rw [hm, e_cons, u_ite]
    simp
    rw [fin2]; rfl
  · obtain ⟨v, hv⟩ : ∃ v, minI (times cs ts) = some v := by
      cases e : times cs ts with
      | nil => exact absurd e hm
      | cons x xs => exact ⟨_, rfl⟩
    have hmin : Blt.run .min [.lst ((times cs ts).map .int)] = some (.int v) := by rw [min_ints, hv]; rfl
    have dz : ¬ ((times cs ts).length : Int) = 0 := by have := List.length_pos_iff.mpr hm; omega
    rw [e_cons, u_ite, hv]
    simp [dz, hmin, hm]
    rw [fin2]; rfl
def bCause : Ss := (.cons (.set (.nm 5) (.call 7 (.cons (.lend 0) (.cons (.lend 2) .nil)))) (.cons (.ite (.cmp .eq (.call 7 (.cons (.lend 0) (.cons (.int 3) .nil))) (.int 2)) (.cons (.set (.nm 5) (.neg (.int 1))) .nil) .nil) (.cons (.ex (.mth .append (.root 3) (.cons (.mov 5) .nil))) .nil)))
theorem r_cause_loop (n : Nat) (j : Jar) (hj : j.Ok) (mm : Nat) (h0 : mm ≤ 100) (great : Int) (g0 : 0 < great) (g1 : great < 1073741824) (ok : Nat → Bool) (o : ∀ i, 3 ≤ i → ok i = true) :
    ∃ (c : List Int) (j' : Jar) (x y : D), c.length = mm ∧ j'.Ok ∧ evS (fun g => pg.glb[g]?) (run pg fuel (n + 1)) fuel (.loop (.nm 4) (.rng1 (.var 1)) bCause) ok [j.d, .int (mm : Int), .int great, .lst [], .no, .no] = .nx [j'.d, .int (mm : Int), .int great, .lst (c.map .int), x, y] := by
  have jn : ∀ j : Jar, j.d.isNo = false := fun _ => rfl
  obtain ⟨ρ', e1, j', c, x, y, rfl, p1, p2⟩ := forL_inv (turn := fun dd ρ' => optO (stT ok (.nm 4) dd ρ') fun ρ2 => evSs (fun g => pg.glb[g]?) (run pg fuel (n + 1)) fuel bCause ok ρ2)
    (fun i ρ => ∃ (j' : Jar) (c : List Int) (x y : D), ρ = [j'.d, .int (mm : Int), .int great, .lst (c.map .int), x, y] ∧ j'.Ok ∧ c.length = i) (rngL 0 (mm : Int)) [j.d, .int (mm : Int), .int great, .lst [], .no, .no] 0 ⟨j, [], _, _, rfl, hj, rfl⟩ (fun k q ρ hk hp => by
      obtain ⟨j1, c, x, y, rfl, p1, p2⟩ := hp
      have hkm : k < mm := by
        have := (List.getElem?_eq_some_iff.mp hk).1
        rw [rngL_0] at this
        simpa using this
      obtain ⟨v1, j2, a1, a2, a3, a4⟩ := r_dip n j1 p1 great g0 g1
      obtain ⟨v2, j3, b1, b2, b3, b4⟩ := r_dip n j2 a3 3 (by decide) (by decide)
      have a4 : run pg fuel (n + 1) 7 [j1.d, .int great] = _ := a4
      have b4 : run pg fuel (n + 1) 7 [j2.d, .int 3] = _ := b4
      have hl : c.length < line := Nat.lt_of_le_of_lt (show c.length ≤ 100 by omega) (by decide)
      by_cases h : v2 = 2
      · refine ⟨_, .inl (?_ : _ = O.nx [j3.d, .int (mm : Int), .int great, .lst ((c ++ [-1]).map .int), q, .int (-1)]), j3, c ++ [-1], q, .int (-1), rfl, b3, by simp; omega⟩
        unfold bCause
        simp [o, jn, a4, b4, h, hl]
      · refine ⟨_, .inl (?_ : _ = O.nx [j3.d, .int (mm : Int), .int great, .lst ((c ++ [v1]).map .int), q, .int v1]), j3, c ++ [v1], q, .int v1, rfl, b3, by simp; omega⟩
        unfold bCause
        simp [o, jn, a4, b4, h, hl])
  have p2' : c.length = mm := by rw [rngL_0, List.length_map, List.length_range] at p2; omega
  have hI : evI (fun g => pg.glb[g]?) (run pg fuel (n + 1)) (.rng1 (.var 1)) [j.d, .int (mm : Int), .int great, .lst [], .no, .no] = .ok (rngL 0 (mm : Int), none) [j.d, .int (mm : Int), .int great, .lst [], .no, .no] := by
    simp [rngOk_of (i := (mm : Int)) (by omega) (by omega), fits_of (n := mm) (by omega)]
  refine ⟨c, j', x, y, p2', p1, ?_⟩
  rw [u_loop, hI]
  simp only [e_o_ok, okBut_none]
  rw [e1, thaw_nx]
end K
end

section
set_option maxRecDepth 100000
set_option linter.all false
namespace K
open Ev
@[simp] theorem u_putr (gl : Nat → Option D) (call : Nat → List D → R D) (fl : Nat) (x : Nat) (i e : E) (ok : Nat → Bool) (ρ : Env) : evS gl call fl (.putr x i e) ok ρ = (evM gl call e .v ρ).o fun v ρ1 => optO (rd ρ1 x) fun _ => (evM gl call i .v ρ1).o fun k ρ2 => ifO k.imm <|
      optO (rd ρ2 x) fun d => optO (D.putAt v d [k]) fun d' => .nx (ρ2.set x d') := id rfl
theorem r_cause (n : Nat) (j : Jar) (hj : j.Ok) (mm : Nat) (h1 : 1 ≤ mm) (h0 : mm ≤ 100) (great : Int) (g0 : 0 < great) (g1 : great < 1073741824) :
    ∃ (c : List Int) (j' : Jar), c.length = mm ∧ (∃ x ∈ c, 0 ≤ x) ∧ j'.Ok ∧ run pg fuel (n + 2) f__law_cause [j.d, .int (mm : Int), .int great] = .ok (tD c) [j'.d, .int (mm : Int), .int great] := by
  have o : ∀ i, 3 ≤ i → okP [j.d, .int (mm : Int), .int great] i = true := fun i hi => by unfold okP; rw [List.getElem?_eq_none (by simpa using hi)]
  obtain ⟨c, j1, x, y, cl, j1ok, hlp⟩ := r_cause_loop n j hj mm h0 great g0 g1 (okP [j.d, .int (mm : Int), .int great]) o
  have jn : ∀ j : Jar, j.d.isNo = false := fun _ => rfl
  have ji : ∀ j : Jar, j.d.imm = false := fun _ => rfl
  obtain ⟨v, hv⟩ := maxI_some (xs := c) (by intro e; rw [e] at cl; simp at cl; omega)
  have hm : Blt.run .max [.lst (c.map .int)] = some (.int v) := by rw [max_ints, hv]; rfl
  have fin3 : ∀ (d : D) (j' : Jar) (r : Env), (O.rt d (j'.d :: .int (mm : Int) :: .int great :: r)).fin [j.d, .int (mm : Int), .int great] = .ok d [j'.d, .int (mm : Int), .int great] := fun d j' r => rfl
  by_cases hneg : v < 0
  · obtain ⟨p, j2, a1, a2, a3, a4⟩ := r_dip n j1 j1ok great g0 g1
    obtain ⟨q, j3, b1, b2, b3, b4⟩ := r_dip n j2 a3 (mm : Int) (by omega) (by omega)
    have a4 : run pg fuel (n + 1) 7 [j1.d, .int great] = _ := a4
    have b4 : run pg fuel (n + 1) 7 [j2.d, .int (mm : Int)] = _ := b4
    obtain ⟨k, rfl⟩ := Int.eq_ofNat_of_zero_le b1
    have hk : k < c.length := by omega
    refine ⟨c.set k p, j3, by simp [cl], ⟨p, List.mem_iff_getElem.mpr ⟨k, by simpa using hk, by simp⟩, a1⟩, b3, ?_⟩
    have hset : (c.map D.int).set k (.int p) = (c.set k p).map D.int := by rw [List.map_set]
    rw [show n + 2 = (n + 1) + 1 from rfl, run_eq (df := d__law_cause) rfl rfl (by decide)]
    rw [show ([j.d, .int (mm : Int), .int great] ++ List.replicate (d__law_cause.ns - d__law_cause.ps) D.no) = [j.d, .int (mm : Int), .int great, .no, .no, .no] from rfl, show d__law_cause.body = c__law_cause from rfl]
    unfold c__law_cause
    have s1 : evS (fun g => pg.glb[g]?) (run pg fuel (n + 1)) fuel (.set (.nm 3) (.lst .nil)) (okP [j.d, .int (mm : Int), .int great]) [j.d, .int (mm : Int), .int great, .no, .no, .no] = .nx [j.d, .int (mm : Int), .int great, .lst [], .no, .no] := by simp [o]
    unfold bCause at hlp
    rw [e_cons, s1, e_nx, e_cons, hlp, e_nx]
    have hpa := putAt_nat (.int p) (c.map .int) k
    rw [List.length_map, if_pos hk] at hpa
    have him : D.immL ((c.map .int).set k (.int p)) = true := by rw [hset]; exact immL_ints _
    simp [hm, hneg, jn, a4, b4, hpa, him]
    rw [fin3, hset]; rfl
  · refine ⟨c, j1, cl, ⟨v, (maxI_mem hv).1, by omega⟩, j1ok, ?_⟩
    rw [show n + 2 = (n + 1) + 1 from rfl, run_eq (df := d__law_cause) rfl rfl (by decide)]
    rw [show ([j.d, .int (mm : Int), .int great] ++ List.replicate (d__law_cause.ns - d__law_cause.ps) D.no) = [j.d, .int (mm : Int), .int great, .no, .no, .no] from rfl, show d__law_cause.body = c__law_cause from rfl]
    unfold c__law_cause
    have s1 : evS (fun g => pg.glb[g]?) (run pg fuel (n + 1)) fuel (.set (.nm 3) (.lst .nil)) (okP [j.d, .int (mm : Int), .int great]) [j.d, .int (mm : Int), .int great, .no, .no, .no] = .nx [j.d, .int (mm : Int), .int great, .lst [], .no, .no] := by simp [o]
    unfold bCause at hlp
    rw [e_cons, s1, e_nx, e_cons, hlp, e_nx]
    simp [hm, hneg]
    rw [fin3]; rfl
/-! ### _law_bars -/
def ownL (ts : List (Option Int)) (d : Int) : List Int := ts.map (ownF d)
def bLB : Ss := (.cons (.set (.nm 6) (.call 9 (.cons (.lend 4) (.cons (.idx (.idx (.var 0) (.var 5)) (.int 0)) .nil)))) (.cons (.ite (.and (.cmp .isn (.var 6) .non) (.or (.cmp .is (.idx (.idx (.var 0) (.var 5)) (.int 1)) .non) (.cmp .lt (.var 6) (.idx (.idx (.var 0) (.var 5)) (.int 1))))) (.cons (.ex (.mth .append (.root 1) (.cons (.tup (.cons (.mov 2) (.cons (.mov 5) .nil))) .nil))) .nil) .nil) .nil))
theorem r_lb1 (gl : Nat → Option D) (call : Nat → List D → R D) (ws : List Wish) (k : Nat) (w : Wish) (hw : ws[k]? = some w) (d : Int) (B a b c e : D) :
    evM gl call (.comp (.ite (.and (.cmp .isn (.var 7) .non) (.cmp .le (.var 7) (.var 3))) (.bin .sub (.var 3) (.var 7)) (.neg (.int 1))) (.nm 7) (.seqv (.idx (.idx (.var 0) (.var 2)) (.int 0))) (.bl true) false [7]) .v
      [.tup (ws.map wD), B, .int (k : Int), .int d, a, b, c, e] = .ok (.lst ((ownL w.1 d).map .int)) [.tup (ws.map wD), B, .int (k : Int), .int d, a, b, c, .no] := by
  have hi : (wD w).imm = true := wD_imm w
  have i0 : D.item (wD w) (.int 0) = some (tO w.1) := rfl
  have it : items (tO w.1) = some (w.1.map oD) := by simp [items, tO]
  have st : (tO w.1).sits = true := rfl
  refine (comp_ok (fz := none) (ρ1 := [.tup (ws.map wD), B, .int (k : Int), .int d, a, b, c, e]) (ds := w.1.map oD) (fun x => match x with
    | .int t => some (.int (ownF d (some t)))
    | _ => some (.int (-1))) ?_ ?_ rfl).trans ?_
  · show (evM gl call (.idx (.idx (.var 0) (.var 2)) (.int 0)) .b [.tup (ws.map wD), B, .int (k : Int), .int d, a, b, c, e]).bind (fun d ρ1 => opt (items d) fun xs => ifOk (d.sits) (.ok (xs, none) ρ1)) = _
    simp [hw, hi, i0, it, st]
  · intro x hx
    obtain ⟨o, _, rfl⟩ := List.mem_map.mp hx
    cases o with
    | none => simp [cturn, stT, Ev.wipe, oD]
    | some t =>
      by_cases h : t ≤ d <;> simp [cturn, stT, Ev.wipe, oD, ownF, h]
  · congr 2
    rw [List.filterMap_map]
    unfold ownL
    clear hw hi i0 it st
    induction w.1 with
    | nil => rfl
    | cons t ts ih =>
      have h1 : ownF d none = -1 := rfl
      cases t <;> simp [oD, h1] <;> simpa using ih
theorem r_lbin0 (gl : Nat → Option D) (call : Nat → List D → R D) (W : List D) (k j : Nat) (C : D) (hC : C.isNo = false) (acc : List D) (ok : Nat → Bool) (o5 : ok 5 = true) (o6 : ok 6 = true) (X Y : D) (hi : X.imm = true) (hY : Y.imm = true) (hw : W[j]? = some Y) (cm dd : Option Int) (i0 : D.item Y (.int 0) = some X) (i1 : D.item Y (.int 1) = some (oD dd))
    (ec : call 9 [C, X] = .ok (oD cm) [C, X]) (hl : acc.length < line) (d x y z : D) :
    (optO (stT ok (.nm 5) (.int (j : Int)) [.tup W, .lst acc, .int (k : Int), d, C, x, y, z]) fun ρ2 => evSs gl call fuel bLB ok ρ2) =
      .nx [.tup W, .lst (acc ++ (if ahead cm dd = true then [pD (k, j)] else [])), .int (k : Int), d, C, .int (j : Int), oD cm, z] := by
  unfold bLB
  cases cm with
  | none => simp [o5, o6, hw, hC, hi, hY, i0, i1, ec, hl, oD, ahead]
  | some cm =>
    cases dd with
    | none => simp [o5, o6, hw, hC, hi, hY, i0, i1, ec, hl, oD, ahead, pD]
    | some dd => by_cases hlt : cm < dd <;> simp [o5, o6, hw, hC, hi, hY, i0, i1, ec, hl, oD, ahead, hlt, pD]
theorem r_lbin (n : Nat) (ws : List Wish) (k j : Nat) (c : List Int) (acc : List D) (ok : Nat → Bool) (o : ∀ i, 1 ≤ i → ok i = true) (w : Wish) (hw : ws[j]? = some w) (hc : c.length = w.1.length) (hm : c.length ≤ 100) (ha : acc.length ≤ 10000) (d x y z : D) :
    (optO (stT ok (.nm 5) (.int (j : Int)) [.tup (ws.map wD), .lst acc, .int (k : Int), d, .lst (c.map .int), x, y, z]) fun ρ2 => evSs (fun g => pg.glb[g]?) (run pg fuel (n + 1)) fuel bLB ok ρ2) =
      .nx [.tup (ws.map wD), .lst (acc ++ (if hit c w = true then [pD (k, j)] else [])), .int (k : Int), d, .lst (c.map .int), .int (j : Int), oD (come (c.zip w.1)), z] :=
  r_lbin0 _ _ _ k j _ rfl acc ok (o 5 (by decide)) (o 6 (by decide)) (tO w.1) (wD w) (by simp [tO]) (wD_imm w) (by rw [List.getElem?_map, hw]; rfl) _ w.2 rfl rfl (r_come n c w.1 hc hm _ (.inr rfl)) (Nat.lt_of_le_of_lt ha (by decide)) d x y z
def bLBo : Ss := (.cons (.set (.nm 3) (.idx (.idx (.var 0) (.var 2)) (.int 1))) (.cons (.ite (.cmp .is (.var 3) .non) (.cons .cnt .nil) .nil) (.cons (.set (.nm 4) (.comp (.ite (.and (.cmp .isn (.var 7) .non) (.cmp .le (.var 7) (.var 3))) (.bin .sub (.var 3) (.var 7)) (.neg (.int 1))) (.nm 7) (.seqv (.idx (.idx (.var 0) (.var 2)) (.int 0))) (.bl true) false [7])) (.cons (.ite (.cmp .lt (.blt .max (.cons (.var 4) .nil)) (.int 0)) (.cons (.ex (.mth .append (.root 1) (.cons (.tup (.cons (.mov 2) (.cons (.mov 2) .nil))) .nil))) (.cons .cnt .nil)) .nil) (.cons (.loop (.nm 5) (.rng1 (.blt .len (.cons (.var 0) .nil))) bLB) .nil)))))
@[simp] theorem u_cnt (gl : Nat → Option D) (call : Nat → List D → R D) (fl : Nat) (ok : Nat → Bool) (ρ : Env) : evS gl call fl .cnt ok ρ = .ct ρ := id rfl
theorem r_lbout (n : Nat) (mm : Nat) (ws : List Wish) (g : Good mm ws) (k : Nat) (w : Wish) (hw : ws[k]? = some w) (acc : List D) (ok : Nat → Bool) (o : ∀ i, 1 ≤ i → ok i = true) (ha : acc.length ≤ 41 * k) (x : Env) (hx : x.length = 6) :
    ∃ x' : Env, x'.length = 6 ∧ ((optO (stT ok (.nm 2) (.int (k : Int)) (.tup (ws.map wD) :: .lst acc :: x)) fun ρ2 => evSs (fun g => pg.glb[g]?) (run pg fuel (n + 1)) fuel bLBo ok ρ2) = .nx (.tup (ws.map wD) :: .lst (acc ++ (barsAt ws k w).map pD) :: x') ∨
      (optO (stT ok (.nm 2) (.int (k : Int)) (.tup (ws.map wD) :: .lst acc :: x)) fun ρ2 => evSs (fun g => pg.glb[g]?) (run pg fuel (n + 1)) fuel bLBo ok ρ2) = .ct (.tup (ws.map wD) :: .lst (acc ++ (barsAt ws k w).map pD) :: x')) := by
  match x, hx with
  | [x2, x3, x4, x5, x6, x7], _ =>
  have hk : k < ws.length := (List.getElem?_eq_some_iff.mp hw).1
  have sz := g.sz
  have mw : w ∈ ws := List.mem_of_getElem? hw
  have gok := g.ok
  have ghi := g.hi
  have glo := g.lo
  have hwne : w.1 ≠ [] := by intro e; have := g.ok w mw; rw [e] at this; simp at this; omega
  have hi : (wD w).imm = true := wD_imm w
  have i1 : D.item (wD w) (.int 1) = some (oD w.2) := rfl
  have hl : acc.length < line := Nat.lt_of_le_of_lt (show acc.length ≤ 10000 by omega) (by decide)
  have hwm : (ws.map wD)[k]? = some (wD w) := by rw [List.getElem?_map, hw]; rfl
  have o2 := o 2 (by decide)
  have o3 := o 3 (by decide)
  have o4 := o 4 (by decide)
  have o5 := o 5 (by decide)
  have o6 := o 6 (by decide)
  have s1 : ∀ (gl : Nat → Option D) (call : Nat → List D → R D) (dd : D), dd.imm = true → D.item (wD w) (.int 1) = some dd → evS gl call fuel (.set (.nm 3) (.idx (.idx (.var 0) (.var 2)) (.int 1))) ok [.tup (ws.map wD), .lst acc, .int (k : Int), x3, x4, x5, x6, x7] = .nx [.tup (ws.map wD), .lst acc, .int (k : Int), dd, x4, x5, x6, x7] := by
    intro gl call dd h1 h2
    generalize ws.map wD = W at *
    generalize wD w = Y at *
    simp [o3, hwm, hi, h1, h2]
  have e0 : stT ok (.nm 2) (.int (k : Int)) [.tup (ws.map wD), .lst acc, x2, x3, x4, x5, x6, x7] = some [.tup (ws.map wD), .lst acc, .int (k : Int), x3, x4, x5, x6, x7] := by simp [o2]
  rw [e0, e_optO]
  unfold bLBo
  rw [e_cons, s1 _ _ (oD w.2) (oD_imm _) i1, e_nx]
  cases hd : w.2 with
  | none =>
    refine ⟨[.int (k : Int), .non, x4, x5, x6, x7], rfl, .inr ?_⟩
    have hb : barsAt ws k w = [] := by unfold barsAt own; rw [hd]; rfl
    rw [hb]
    simp [oD]
  | some d =>
    obtain ⟨v, hv⟩ := maxI_some (xs := w.1.map (ownF d)) (by simpa using hwne)
    have hm : Blt.run .max [.lst ((ownL w.1 d).map .int)] = some (.int v) := by rw [max_ints]; unfold ownL; rw [hv]; rfl
    have s2 : evS (fun g => pg.glb[g]?) (run pg fuel (n + 1)) fuel (.ite (.cmp .is (.var 3) .non) (.cons .cnt .nil) .nil) ok [.tup (ws.map wD), .lst acc, .int (k : Int), .int d, x4, x5, x6, x7] = .nx [.tup (ws.map wD), .lst acc, .int (k : Int), .int d, x4, x5, x6, x7] := by simp
    have s3 : ∀ y, stT ok (.nm 4) y [.tup (ws.map wD), .lst acc, .int (k : Int), .int d, x4, x5, x6, .no] = some [.tup (ws.map wD), .lst acc, .int (k : Int), .int d, y, x5, x6, .no] := fun y => by simp [o4]
    show ∃ x' : Env, _ ∧ (evSs _ _ fuel (.cons (.ite (.cmp .is (.var 3) .non) (.cons .cnt .nil) .nil) _) ok [.tup (ws.map wD), .lst acc, .int (k : Int), .int d, x4, x5, x6, x7] = _ ∨ evSs _ _ fuel (.cons (.ite (.cmp .is (.var 3) .non) (.cons .cnt .nil) .nil) _) ok [.tup (ws.map wD), .lst acc, .int (k : Int), .int d, x4, x5, x6, x7] = _)
    rw [e_cons, s2, e_nx, e_cons, u_set, r_lb1 _ _ ws k w hw d, e_o_ok, s3, e_optO, e_nx]
    by_cases hneg : v < 0
    · refine ⟨[.int (k : Int), .int d, .lst ((ownL w.1 d).map .int), x5, x6, .no], rfl, .inr ?_⟩
      have ho : own w.1 w.2 = none := by unfold own; rw [hd]; show (if 0 ≤ (maxI (w.1.map (ownF d))).getD (-1) then _ else _) = _; rw [hv, if_neg (by simpa using hneg)]
      have hb : barsAt ws k w = [(k, k)] := by unfold barsAt; rw [ho, hd]; rfl
      rw [hb]
      clear hb ho s1 s2 s3 hwm hi i1 
      generalize (ownL w.1 d).map D.int = C at *
      generalize ws.map wD = W at *
      simp [-u_loop, hm, hneg, hl, pD]
    · have ho : own w.1 w.2 = some (ownL w.1 d) := by unfold own; rw [hd]; show (if 0 ≤ (maxI (w.1.map (ownF d))).getD (-1) then _ else _) = _; rw [hv, if_pos (by simpa using hneg)]; rfl
      obtain ⟨cl, cp⟩ := own_len ho
      have f1 : fits ws.length = true := fits_of (by omega)
      have f2 : rngOk (ws.length : Int) = true := rngOk_of (by omega) (by omega)
      obtain ⟨x', hx⟩ := forL_rng (turn := fun dd ρ' => optO (stT ok (.nm 5) dd ρ') fun ρ2 => evSs (fun g => pg.glb[g]?) (run pg fuel (n + 1)) fuel bLB ok ρ2) (fun acc (x : D × D × D) => [.tup (ws.map wD), .lst acc, .int (k : Int), .int d, .lst ((ownL w.1 d).map .int), x.1, x.2.1, x.2.2])
        (fun j v => if hit (ownL w.1 d) v = true then [pD (k, j)] else []) (fun j a => a.length ≤ 41 * k + j) ws 0 acc (x5, x6, .no) (by omega) (fun j v a y hj hI => by
          have mv := List.mem_of_getElem? hj
          have jl : j < ws.length := (List.getElem?_eq_some_iff.mp hj).1
          have cv : (ownL w.1 d).length = v.1.length := by rw [cl, g.ok w mw, g.ok v mv]
          refine ⟨by rw [List.length_append]; split <;> simp <;> omega, (.int ((0 + j : Nat) : Int), oD (come ((ownL w.1 d).zip v.1)), y.2.2), .inl ?_⟩
          have := r_lbin n ws k j (ownL w.1 d) a ok o v hj cv (by rw [cl, g.ok w mw]; exact g.hi) (by omega) (.int d) y.1 y.2.1 y.2.2
          rw [Nat.zero_add]
          exact this)
      rw [← rngL_0] at hx
      refine ⟨[.int (k : Int), .int d, .lst ((ownL w.1 d).map .int), x'.1, x'.2.1, x'.2.2], rfl, .inl ?_⟩
      have hb : (barsAt ws k w).map pD = ws.zipIdx.flatMap fun p => if hit (ownL w.1 d) p.1 = true then [pD (k, p.2)] else [] := by
        unfold barsAt
        rw [ho]
        show List.map pD (ws.zipIdx.flatMap fun p => if hit (ownL w.1 d) p.1 = true then [(k, p.2)] else []) = _
        rw [List.map_flatMap]
        refine congrArg (fun f => ws.zipIdx.flatMap f) (funext fun p => ?_)
        cases hit (ownL w.1 d) p.1 <;> simp
      rw [hb]
      have s4 : evS (fun g => pg.glb[g]?) (run pg fuel (n + 1)) fuel (.ite (.cmp .lt (.blt .max (.cons (.var 4) .nil)) (.int 0)) (.cons (.ex (.mth .append (.root 1) (.cons (.tup (.cons (.mov 2) (.cons (.mov 2) .nil))) .nil))) (.cons .cnt .nil)) .nil) ok [.tup (ws.map wD), .lst acc, .int (k : Int), .int d, .lst ((ownL w.1 d).map .int), x5, x6, .no] = .nx [.tup (ws.map wD), .lst acc, .int (k : Int), .int d, .lst ((ownL w.1 d).map .int), x5, x6, .no] := by
        clear hx hb ho s1 s2 s3 hwm hi i1
        generalize (ownL w.1 d).map D.int = C at *
        generalize ws.map wD = W at *
        simp [hm, hneg]
      have hI : evI (fun g => pg.glb[g]?) (run pg fuel (n + 1)) (.rng1 (.blt .len (.cons (.var 0) .nil))) [.tup (ws.map wD), .lst acc, .int (k : Int), .int d, .lst ((ownL w.1 d).map .int), x5, x6, .no] = .ok (rngL 0 (ws.length : Int), none) [.tup (ws.map wD), .lst acc, .int (k : Int), .int d, .lst ((ownL w.1 d).map .int), x5, x6, .no] := by
        simp [f1, f2]
      rw [e_cons, s4, e_nx, e_cons, u_loop, hI]
      simp only [e_o_ok, okBut_none]
      rw [hx]
      rfl
theorem r_bars (n : Nat) (mm : Nat) (ws : List Wish) (g : Good mm ws) : run pg fuel (n + 2) f__law_bars [.tup (ws.map wD)] = .ok (.tup ((bars ws).map pD)) [.tup (ws.map wD)] := by
  have o : ∀ i, 1 ≤ i → okP [.tup (ws.map wD)] i = true := fun i hi => by
    unfold okP
    rw [List.getElem?_eq_none (by simpa using hi)]
  have sz := g.sz
  have f1 : fits ws.length = true := fits_of (by omega)
  have f2 : rngOk (ws.length : Int) = true := rngOk_of (by omega) (by omega)
  obtain ⟨x', hx⟩ := forL_rng (turn := fun d ρ' => optO (stT (okP [.tup (ws.map wD)]) (.nm 2) d ρ') fun ρ2 => evSs (fun g => pg.glb[g]?) (run pg fuel (n + 1)) fuel bLBo (okP [.tup (ws.map wD)]) ρ2)
    (fun acc (x : {x : Env // x.length = 6}) => .tup (ws.map wD) :: .lst acc :: x.1) (fun k w => (barsAt ws k w).map pD) (fun k a => a.length ≤ 41 * k) ws 0 [] ⟨[.no, .no, .no, .no, .no, .no], rfl⟩ (by simp) (fun k w a y hk hI => by
      have jl : k < ws.length := (List.getElem?_eq_some_iff.mp hk).1
      have bl := barsAt_len ws k w
      rw [Nat.zero_add] at hI ⊢
      refine ⟨by rw [List.length_append, List.length_map]; omega, ?_⟩
      obtain ⟨x', hl, h⟩ := r_lbout n mm ws g k w hk a _ o hI y.1 y.2
      exact ⟨⟨x', hl⟩, h⟩)
  rw [← rngL_0] at hx
  simp only [List.nil_append] at hx
  have hbb : (ws.zipIdx.flatMap fun p => (barsAt ws p.2 p.1).map pD) = (bars ws).map pD := by unfold bars; rw [List.map_flatMap]
  rw [hbb] at hx
  rw [show n + 2 = (n + 1) + 1 from rfl, run_eq (df := d__law_bars) rfl rfl (by decide)]
  rw [show ([.tup (ws.map wD)] ++ List.replicate (d__law_bars.ns - d__law_bars.ps) D.no) = [.tup (ws.map wD), .no, .no, .no, .no, .no, .no, .no] from rfl, show d__law_bars.body = c__law_bars from rfl]
  unfold c__law_bars
  have s1 : evS (fun g => pg.glb[g]?) (run pg fuel (n + 1)) fuel (.set (.nm 1) (.lst .nil)) (okP [.tup (ws.map wD)]) [.tup (ws.map wD), .no, .no, .no, .no, .no, .no, .no] = .nx [.tup (ws.map wD), .lst [], .no, .no, .no, .no, .no, .no] := by simp [o 1 (by decide)]
  have hI : evI (fun g => pg.glb[g]?) (run pg fuel (n + 1)) (.rng1 (.blt .len (.cons (.var 0) .nil))) [.tup (ws.map wD), .lst [], .no, .no, .no, .no, .no, .no] = .ok (rngL 0 (ws.length : Int), none) [.tup (ws.map wD), .lst [], .no, .no, .no, .no, .no, .no] := by simp [f1, f2]
  rw [e_cons, s1, e_nx, e_cons, u_loop, hI]
  simp only [e_o_ok, okBut_none]
  unfold bLBo bLB at hx
  rw [hx]
  obtain ⟨x', hl⟩ := x'
  have hW : D.immL (ws.map wD) = true := immL_wD ws
  match x', hl with
  | [x2, x3, x4, x5, x6, x7], _ =>
  have hP := immL_pD (bars ws)
  generalize (bars ws).map pD = B at *
  generalize ws.map wD = W at *
  simp [hP, O.fin, fin, hW]
end K
end

section
set_option maxRecDepth 100000
set_option linter.all false
namespace K
open Ev
/-! ### slices -/
@[simp] theorem l_mov (i : Nat) : E.lent? (.mov i) = none := id rfl
@[simp] theorem x_part (gl : Nat → Option D) (call : Nat → List D → R D) (m : Md) (ρ : Env) : evM gl call .part m ρ = m.tr (.ok .non ρ) := id rfl
@[simp] theorem x_slc (gl : Nat → Option D) (call : Nat → List D → R D) (a lo hi : E) (m : Md) (ρ : Env) : evM gl call (.slc a lo hi) m ρ = (m.tr <| (evM gl call a .b ρ).bind fun x ρ1 => ifOk (needs x a (lo.quiet && hi.quiet)) <| (evM gl call lo .v ρ1).bind fun l ρ2 => opt (partOf lo l) fun l => (evM gl call hi .v ρ2).bind fun h ρ3 =>
      opt (partOf hi h) fun h => opt (x.slice l h) fun d => .ok d ρ3) := id rfl
@[simp] theorem po_part (d : D) : partOf .part d = some none := id rfl
@[simp] theorem po_var (i : Nat) (d : D) : partOf (.var i) d = d.int?.map some := id rfl
@[simp] theorem po_bin (o : Op2) (a b : E) (d : D) : partOf (.bin o a b) d = d.int?.map some := id rfl
@[simp] theorem q_part : E.quiet .part = true := id rfl
theorem slice_take (xs : List D) (k : Nat) : D.slice (.tup xs) none (some (k : Int)) = if D.immL xs = true then some (.tup (xs.take k)) else none := by
  show (if D.immL xs = true then some (D.tup (cut xs none (some (k : Int)))) else none) = _
  have : cut xs none (some (k : Int)) = xs.take k := by
    unfold cut sIx
    have : ¬ (k : Int) < 0 := by omega
    simp [this]
  rw [this]
theorem slice_drop (xs : List D) (k : Nat) : D.slice (.tup xs) (some (k : Int)) none = if D.immL xs = true then some (.tup (xs.drop k)) else none := by
  show (if D.immL xs = true then some (D.tup (cut xs (some (k : Int)) none)) else none) = _
  have : cut xs (some (k : Int)) none = xs.drop k := by
    unfold cut sIx
    have : ¬ (k : Int) < 0 := by omega
    simp [this]
    by_cases h : k ≤ xs.length
    · rw [Nat.min_eq_left h]
      rw [List.take_of_length_le]; rw [List.length_drop]; exact Nat.le_refl _
    · rw [Nat.min_eq_right (by omega), List.drop_eq_nil_of_le (Nat.le_refl _), List.drop_eq_nil_of_le (by omega)]; simp
  rw [this]
theorem o_addT (xs ys : List D) : Op2.run .add (.tup xs) (.tup ys) = if xs.length + ys.length ≤ line ∧ D.immL xs = true ∧ D.immL ys = true then some (.tup (xs ++ ys)) else none := id rfl
theorem immL_mem {xs : List D} (h : D.immL xs = true) : ∀ x ∈ xs, x.imm = true := by rw [immL_all, List.all_eq_true] at h; exact h
theorem immL_take {xs : List D} (h : D.immL xs = true) (k : Nat) : D.immL (xs.take k) = true := immL_of fun x m => immL_mem h x (List.mem_of_mem_take m)
theorem immL_drop {xs : List D} (h : D.immL xs = true) (k : Nat) : D.immL (xs.drop k) = true := immL_of fun x m => immL_mem h x (List.mem_of_mem_drop m)
theorem add3 {xs : List D} (h : D.immL xs = true) (hl : xs.length ≤ 1000) {d : D} (hd : d.imm = true) (k k' : Nat) : Op2.run .add (.tup (xs.take k)) (.tup [d]) = some (.tup (xs.take k ++ [d])) ∧ Op2.run .add (.tup (xs.take k ++ [d])) (.tup (xs.drop k')) = some (.tup (xs.take k ++ [d] ++ xs.drop k')) := by
  constructor
  · rw [o_addT, if_pos ⟨small (by simp; omega), immL_take h k, by simp [hd]⟩]
  · rw [o_addT, if_pos ⟨small (by simp; omega), by simp [immL_take h k, hd], immL_drop h k'⟩]
theorem put0 (gl : Nat → Option D) (call : Nat → List D → R D) (W : List D) (hW : D.immL W = true) (hl : W.length ≤ 1000) (k : Nat) (d : D) (hd : d.imm = true) (nd : d.isNo = false) (ok : Nat → Bool) :
    evSs gl call fuel c__law_put ok [.tup W, .int (k : Int), d] = .rt (.tup (W.take k ++ [d] ++ W.drop k)) [.tup W, .int (k : Int), d] := by
  unfold c__law_put
  obtain ⟨h1, h2⟩ := add3 hW hl hd k k
  simp [-List.append_assoc, slice_take, slice_drop, hW, hd, nd, h1, h2]
theorem fin_imm {ds : List D} {d : D} {r : Env} (h : ∀ x ∈ ds, x.imm = true) : (O.rt d (ds ++ r)).fin ds = .ok d ds := by
  show R.ok d (Ev.fin ds (ds ++ r)) = _
  congr 1
  unfold Ev.fin
  induction ds with
  | nil => rfl
  | cons x xs ih => rw [List.cons_append, List.zipWith_cons_cons, ih fun y m => h y (List.mem_cons_of_mem _ m)]; simp
def putW (ws : List Wish) (k : Nat) (w : Wish) : List Wish := ws.take k ++ [w] ++ ws.drop k
theorem r_put (n : Nat) (ws : List Wish) (hl : ws.length ≤ 1000) (k : Nat) (w : Wish) : run pg fuel (n + 1) f__law_put [.tup (ws.map wD), .int (k : Int), wD w] = .ok (.tup ((putW ws k w).map wD)) [.tup (ws.map wD), .int (k : Int), wD w] := by
  rw [run_eq (df := d__law_put) rfl rfl (by decide)]
  rw [show ([.tup (ws.map wD), .int (k : Int), wD w] ++ List.replicate (d__law_put.ns - d__law_put.ps) D.no) = [.tup (ws.map wD), .int (k : Int), wD w] from rfl, show d__law_put.body = c__law_put from rfl]
  rw [put0 _ _ (ws.map wD) (immL_wD ws) (by simpa using hl) k (wD w) (wD_imm w) rfl]
  have e : (putW ws k w).map wD = (ws.map wD).take k ++ [wD w] ++ (ws.map wD).drop k := by unfold putW; simp [List.map_take, List.map_drop]
  rw [e]
  exact fin_imm (r := []) (by intro x hx; simp at hx; rcases hx with rfl | rfl | rfl; exact immL_wD ws; rfl; exact wD_imm w)
/-! ### _law_changed -/
theorem ch_none (gl : Nat → Option D) (call : Nat → List D → R D) (J0 J1 J2 J3 X Y : D) (n0 : J0.isNo = false) (n1 : J1.isNo = false) (n2 : J2.isNo = false) (W : List D) (hW : D.immL W = true) (hl : W.length ≤ 1000) (k wy : Nat) (hwy : wy < 5) (great p : Int)
    (hw : W[k]? = some Y) (hY : Y.imm = true) (i1 : D.item Y (.int 1) = some .non) (i0 : D.item Y (.int 0) = some X) (hX : X.imm = true)
    (c1 : call 7 [J0, .int (W.length : Int)] = .ok (.int (k : Int)) [J1, .int (W.length : Int)]) (c2 : call 7 [J1, .int 5] = .ok (.int (wy : Int)) [J2, .int 5]) (c3 : call 7 [J2, .int great] = .ok (.int p) [J3, .int great])
    (ok : Nat → Bool) (o3 : ok 3 = true) (o4 : ok 4 = true) (o5 : ok 5 = true) (o6 : ok 6 = true) :
    ∃ (f : Option Int) (r : Env), evSs gl call fuel c__law_changed ok [J0, .tup W, .int great, .no, .no, .no, .no] = .rt (.tup (W.take k ++ [.tup [X, oD f]] ++ W.drop (k + 1))) (J3 :: .tup W :: .int great :: r) := by
  have sd : D.slice (.tup W) (some ((k : Int) + 1)) none = some (.tup (W.drop (k + 1))) := by have := slice_drop W (k + 1); rw [if_pos hW] at this; exact this
  have fin : ∀ f : Option Int, Op2.run .add (.tup (W.take k)) (.tup [.tup [X, oD f]]) = some (.tup (W.take k ++ [.tup [X, oD f]])) ∧ Op2.run .add (.tup (W.take k ++ [.tup [X, oD f]])) (.tup (W.drop (k + 1))) = some (.tup (W.take k ++ [.tup [X, oD f]] ++ W.drop (k + 1))) := fun f => add3 hW hl (by simp [hX]) k (k + 1)
  unfold c__law_changed
  match wy, hwy with
  | 0, _ => exact ⟨some 0, [.int (k : Int), .non, .int 0, .int 0], by have := fin (some 0); simp only [oD] at this; simp [-List.append_assoc, n0, n1, n2, hw, hY, i1, i0, hX, c1, c2, c3, o3, o4, o5, o6, slice_take, sd, hW, oD, this]⟩
  | 1, _ => exact ⟨some p, [.int (k : Int), .non, .int 1, .int p], by have := fin (some p); simp only [oD] at this; simp [-List.append_assoc, n0, n1, n2, hw, hY, i1, i0, hX, c1, c2, c3, o3, o4, o5, o6, slice_take, sd, hW, oD, this]⟩
  | 2, _ => exact ⟨some 99000, [.int (k : Int), .non, .int 2, .int 99000], by have := fin (some 99000); simp only [oD] at this; simp [-List.append_assoc, n0, n1, n2, hw, hY, i1, i0, hX, c1, c2, c3, o3, o4, o5, o6, slice_take, sd, hW, oD, this]⟩
  | 3, _ => exact ⟨some 1, [.int (k : Int), .non, .int 3, .int 1], by have := fin (some 1); simp only [oD] at this; simp [-List.append_assoc, n0, n1, n2, hw, hY, i1, i0, hX, c1, c2, c3, o3, o4, o5, o6, slice_take, sd, hW, oD, this]⟩
  | 4, _ => exact ⟨some great, [.int (k : Int), .non, .int 4, .int great], by have := fin (some great); simp only [oD] at this; simp [-List.append_assoc, n0, n1, n2, hw, hY, i1, i0, hX, c1, c2, c3, o3, o4, o5, o6, slice_take, sd, hW, oD, this]⟩
theorem ch_some (gl : Nat → Option D) (call : Nat → List D → R D) (J0 J1 J2 X Y : D) (n0 : J0.isNo = false) (n1 : J1.isNo = false) (n2 : J2.isNo = false) (W : List D) (hW : D.immL W = true) (hl : W.length ≤ 1000) (k wy : Nat) (hwy : wy < 5) (great d : Int)
    (hw : W[k]? = some Y) (hY : Y.imm = true) (i1 : D.item Y (.int 1) = some (.int d)) (i0 : D.item Y (.int 0) = some X) (hX : X.imm = true)
    (c1 : call 7 [J0, .int (W.length : Int)] = .ok (.int (k : Int)) [J1, .int (W.length : Int)]) (c2 : call 7 [J1, .int 5] = .ok (.int (wy : Int)) [J2, .int 5])
    (ok : Nat → Bool) (o3 : ok 3 = true) (o4 : ok 4 = true) (o5 : ok 5 = true) (o6 : ok 6 = true) :
    ∃ (f : Option Int) (r : Env), evSs gl call fuel c__law_changed ok [J0, .tup W, .int great, .no, .no, .no, .no] = .rt (.tup (W.take k ++ [.tup [X, oD f]] ++ W.drop (k + 1))) (J2 :: .tup W :: .int great :: r) := by
  have sd : D.slice (.tup W) (some ((k : Int) + 1)) none = some (.tup (W.drop (k + 1))) := by have := slice_drop W (k + 1); rw [if_pos hW] at this; exact this
  have fin : ∀ f : Option Int, Op2.run .add (.tup (W.take k)) (.tup [.tup [X, oD f]]) = some (.tup (W.take k ++ [.tup [X, oD f]])) ∧ Op2.run .add (.tup (W.take k ++ [.tup [X, oD f]])) (.tup (W.drop (k + 1))) = some (.tup (W.take k ++ [.tup [X, oD f]] ++ W.drop (k + 1))) := fun f => add3 hW hl (by simp [hX]) k (k + 1)
  have mx : Blt.run .max [.int (d - 1), .int 0] = some (.int (if 0 > d - 1 then 0 else d - 1)) := rfl
  unfold c__law_changed
  match wy, hwy with
  | 0, _ => exact ⟨some (d + 1), [.int (k : Int), .int d, .int 0, oD (some (d + 1))], by have := fin (some (d + 1)); simp only [oD] at this; simp [-List.append_assoc, -max_two, mx, n0, n1, n2, hw, hY, i1, i0, hX, c1, c2, o3, o4, o5, o6, slice_take, sd, hW, oD, this]⟩
  | 1, _ => exact ⟨none, [.int (k : Int), .int d, .int 1, oD (none)], by have := fin (none); simp only [oD] at this; simp [-List.append_assoc, -max_two, mx, n0, n1, n2, hw, hY, i1, i0, hX, c1, c2, o3, o4, o5, o6, slice_take, sd, hW, oD, this]⟩
  | 2, _ => exact ⟨some (if 0 > d - 1 then 0 else d - 1), [.int (k : Int), .int d, .int 2, oD (some (if 0 > d - 1 then 0 else d - 1))], by have := fin (some (if 0 > d - 1 then 0 else d - 1)); simp only [oD] at this; simp [-List.append_assoc, -max_two, mx, n0, n1, n2, hw, hY, i1, i0, hX, c1, c2, o3, o4, o5, o6, slice_take, sd, hW, oD, this]⟩
  | 3, _ => exact ⟨some 0, [.int (k : Int), .int d, .int 3, oD (some 0)], by have := fin (some 0); simp only [oD] at this; simp [-List.append_assoc, -max_two, mx, n0, n1, n2, hw, hY, i1, i0, hX, c1, c2, o3, o4, o5, o6, slice_take, sd, hW, oD, this]⟩
  | 4, _ => exact ⟨some (d + 2), [.int (k : Int), .int d, .int 4, oD (some (d + 2))], by have := fin (some (d + 2)); simp only [oD] at this; simp [-List.append_assoc, -max_two, mx, n0, n1, n2, hw, hY, i1, i0, hX, c1, c2, o3, o4, o5, o6, slice_take, sd, hW, oD, this]⟩
def chW (ws : List Wish) (k : Nat) (w : Wish) : List Wish := ws.take k ++ [w] ++ ws.drop (k + 1)
theorem chW_len {ws : List Wish} {k : Nat} (h : k < ws.length) (w : Wish) : (chW ws k w).length = ws.length := by unfold chW; simp; omega
theorem chW_map (ws : List Wish) (k : Nat) (w : Wish) : (chW ws k w).map wD = (ws.map wD).take k ++ [wD w] ++ (ws.map wD).drop (k + 1) := by unfold chW; simp [List.map_take, List.map_drop]
theorem r_changed (n : Nat) (mm : Nat) (ws : List Wish) (g : Good mm ws) (h0 : 0 < ws.length) (j : Jar) (hj : j.Ok) (great : Int) (g0 : 0 < great) (g1 : great < 1073741824) :
    ∃ (ws' : List Wish) (j' : Jar), ws'.length = ws.length ∧ Good mm ws' ∧ j'.Ok ∧ run pg fuel (n + 2) f__law_changed [j.d, .tup (ws.map wD), .int great] = .ok (.tup (ws'.map wD)) [j'.d, .tup (ws.map wD), .int great] := by
  have sz := g.sz
  obtain ⟨a, j1, a1, a2, a3, a4⟩ := r_dip n j hj (ws.length : Int) (by omega) (by omega)
  obtain ⟨b, j2, b1, b2, b3, b4⟩ := r_dip n j1 a3 5 (by decide) (by decide)
  obtain ⟨p, j3, p1, p2, p3, p4⟩ := r_dip n j2 b3 great g0 g1
  obtain ⟨k, rfl⟩ := Int.eq_ofNat_of_zero_le a1
  obtain ⟨wy, rfl⟩ := Int.eq_ofNat_of_zero_le b1
  have hk : k < ws.length := by omega
  have hwy : wy < 5 := by omega
  have hlen : (ws.map wD).length = ws.length := List.length_map ..
  have hw : (ws.map wD)[k]? = some (wD ws[k]) := by rw [List.getElem?_map, List.getElem?_eq_getElem hk]; rfl
  have o : ∀ i, 3 ≤ i → okP [j.d, .tup (ws.map wD), .int great] i = true := fun i hi => by unfold okP; rw [List.getElem?_eq_none (by simpa using hi)]
  rw [show n + 2 = (n + 1) + 1 from rfl, run_eq (df := d__law_changed) rfl rfl (by decide)]
  rw [show ([j.d, .tup (ws.map wD), .int great] ++ List.replicate (d__law_changed.ns - d__law_changed.ps) D.no) = [j.d, .tup (ws.map wD), .int great, .no, .no, .no, .no] from rfl, show d__law_changed.body = c__law_changed from rfl]
  have good : ∀ f : Option Int, Good mm (chW ws k (ws[k].1, f)) := fun f => ⟨fun w m => by
    unfold chW at m
    simp only [List.mem_append, List.mem_singleton] at m
    rcases m with (m | rfl) | m
    · exact g.ok w (List.mem_of_mem_take m)
    · exact g.ok ws[k] (List.getElem_mem hk)
    · exact g.ok w (List.mem_of_mem_drop m), g.lo, g.hi, by rw [chW_len hk]; exact g.sz⟩
  have fin3 : ∀ (d : D) (j' : Jar) (r : Env), (O.rt d (j'.d :: .tup (ws.map wD) :: .int great :: r)).fin [j.d, .tup (ws.map wD), .int great] = .ok d [j'.d, .tup (ws.map wD), .int great] := fun d j' r => by
    show R.ok d [j'.d, if (D.tup (ws.map wD)).imm = true then D.tup (ws.map wD) else D.tup (ws.map wD), D.int great] = _
    simp
  cases hd : ws[k].2 with
  | none =>
    obtain ⟨f, r, e⟩ := ch_none (fun g => pg.glb[g]?) (run pg fuel (n + 1)) j.d j1.d j2.d j3.d (tO ws[k].1) (wD ws[k]) rfl rfl rfl (ws.map wD) (immL_wD ws) (by omega) k wy hwy great p hw (wD_imm _) (by show some (oD ws[k].2) = _; rw [hd]; rfl) rfl (by simp [tO]) (by rw [hlen]; exact a4) b4 p4 _ (o 3 (by decide)) (o 4 (by decide)) (o 5 (by decide)) (o 6 (by decide))
    refine ⟨chW ws k (ws[k].1, f), j3, chW_len hk _, good f, p3, ?_⟩
    rw [e, fin3, chW_map]; rfl
  | some d =>
    obtain ⟨f, r, e⟩ := ch_some (fun g => pg.glb[g]?) (run pg fuel (n + 1)) j.d j1.d j2.d (tO ws[k].1) (wD ws[k]) rfl rfl rfl (ws.map wD) (immL_wD ws) (by omega) k wy hwy great d hw (wD_imm _) (by show some (oD ws[k].2) = _; rw [hd]; rfl) rfl (by simp [tO]) (by rw [hlen]; exact a4) b4 _ (o 3 (by decide)) (o 4 (by decide)) (o 5 (by decide)) (o 6 (by decide))
    refine ⟨chW ws k (ws[k].1, f), j2, chW_len hk _, good f, b3, ?_⟩
    rw [e, fin3, chW_map]; rfl
end K
end

section
set_option maxRecDepth 100000
set_option linter.all false
namespace K
open Ev
@[simp] theorem q_call (f : Nat) (es : Es) : E.quiet (.call f es) = false := id rfl
theorem o_rep {x : D} (h : x.imm = true) {k : Nat} (h1 : 1 ≤ k) (h2 : k ≤ 1000) : Op2.run .mul (.tup [x]) (.int (k : Int)) = some (.tup (List.replicate k x)) := by
  show (if 1 ≤ (k : Int) ∧ (k : Int) ≤ 1000 ∧ x.imm = true then some (D.tup (List.replicate (k : Int).toNat x)) else none) = _
  rw [if_pos ⟨by omega, by omega, h⟩, Int.toNat_natCast]
@[simp] theorem x_seqv (gl : Nat → Option D) (call : Nat → List D → R D) (a : E) (ρ : Env) : evI gl call (.seqv a) ρ = (evM gl call a .b ρ).bind fun d ρ1 => opt (items d) fun xs => ifOk (d.sits) (.ok (xs, none) ρ1) := id rfl
def Asks (call : Nat → List D → R D) (mm : Nat) (W B : List D) : Prop := call 15 [.int (mm : Int), .tup W, .tup B] = .ok (.bl true) [.int (mm : Int), .tup W, .tup B]
def i2 (a b : Int) : D := .tup [.int a, .int b]
def bh0 : S := (.set (.nm 4) (.blt .len (.cons (.var 2) .nil)))
def bh1 : S := (.set (.nm 5) (.call 7 (.cons (.lend 0) (.cons (.bin .add (.var 4) (.int 1)) .nil))))
def bh2 : S := (.set (.nm 6) (.call 14 (.cons (.lend 2) (.cons (.lend 5) (.cons (.tup (.cons (.bin .mul (.tup (.cons .non .nil)) (.var 1)) (.cons (.call 7 (.cons (.lend 0) (.cons (.lend 3) .nil))) .nil))) .nil)))))
def bh3 : S := (.ite (.not (.call 15 (.cons (.lend 1) (.cons (.lend 6) (.cons (.tup (.cons (.tup (.cons (.mov 5) (.cons (.mov 5) .nil))) .nil)) .nil))))) (.cons (.ret (.bl false)) .nil) .nil)
def bh4 : S := (.set (.nm 7) (.call 7 (.cons (.lend 0) (.cons (.lend 3) .nil))))
def bh5 : S := (.set (.nm 8) (.blt .tuple (.cons (.comp (.bin .add (.bin .add (.var 7) (.int 1)) (.call 7 (.cons (.lend 0) (.cons (.int 3) .nil)))) (.nm 14) (.rng1 (.var 1)) (.bl true) false [14]) .nil)))
def bh6 : S := (.set (.nm 9) (.tup (.cons (.mov 8) (.cons (.mov 7) .nil))))
def bh7 : S := (.ite (.or (.not (.call 15 (.cons (.lend 1) (.cons (.tup (.cons (.mov 9) .nil)) (.cons (.tup (.cons (.tup (.cons (.int 0) (.cons (.int 0) .nil))) .nil)) .nil))))) (.not (.call 15 (.cons (.lend 1) (.cons (.tup (.cons (.mov 9) (.cons (.mov 9) .nil))) (.cons (.tup (.cons (.tup (.cons (.int 0) (.cons (.int 0) .nil))) (.cons (.tup (.cons (.int 1) (.cons (.int 1) .nil))) .nil))) .nil)))))) (.cons (.ret (.bl false)) .nil) .nil)
def bh8 : S := (.set (.nm 10) (.blt .tuple (.cons (.comp (.bin .sub (.var 15) (.int 1)) (.nm 15) (.froz 8) (.bl true) false [15]) .nil)))
def bh9 : S := (.set (.nm 9) (.tup (.cons (.mov 10) (.cons (.blt .max (.cons (.var 10) .nil)) .nil))))
def bh10 : S := (.ite (.or (.not (.call 15 (.cons (.lend 1) (.cons (.tup (.cons (.mov 9) .nil)) (.cons (.tup .nil) .nil))))) (.not (.call 15 (.cons (.lend 1) (.cons (.tup (.cons (.mov 9) (.cons (.mov 9) .nil))) (.cons (.tup .nil) .nil)))))) (.cons (.ret (.bl false)) .nil) .nil)
def bh11 : S := (.set (.nm 11) (.tup (.cons (.mov 10) (.cons (.bin .add (.blt .max (.cons (.var 10) .nil)) (.int 1)) .nil))))
def bh12 : S := (.set (.nm 12) (.tup (.cons (.mov 10) (.cons .non .nil))))
def bh13 : S := (.ite (.or (.not (.call 15 (.cons (.lend 1) (.cons (.tup (.cons (.mov 9) (.cons (.mov 11) .nil))) (.cons (.tup (.cons (.tup (.cons (.int 0) (.cons (.int 1) .nil))) .nil)) .nil))))) (.not (.call 15 (.cons (.lend 1) (.cons (.tup (.cons (.mov 11) (.cons (.mov 9) .nil))) (.cons (.tup (.cons (.tup (.cons (.int 1) (.cons (.int 0) .nil))) .nil)) .nil)))))) (.cons (.ret (.bl false)) .nil) .nil)
def bh14 : S := (.ite (.or (.not (.call 15 (.cons (.lend 1) (.cons (.tup (.cons (.mov 12) (.cons (.mov 9) .nil))) (.cons (.tup (.cons (.tup (.cons (.int 1) (.cons (.int 0) .nil))) .nil)) .nil))))) (.not (.call 15 (.cons (.lend 1) (.cons (.tup (.cons (.mov 12) (.cons (.tup (.cons (.bin .mul (.tup (.cons .non .nil)) (.var 1)) (.cons .non .nil))) .nil))) (.cons (.tup .nil) .nil)))))) (.cons (.ret (.bl false)) .nil) .nil)
def bh15 : S := (.set (.nm 13) (.tup (.cons (.blt .tuple (.cons (.comp (.bin .add (.var 15) (.int 1)) (.nm 15) (.froz 10) (.bl true) false [15]) .nil)) (.cons (.bin .add (.blt .max (.cons (.var 10) .nil)) (.int 1)) .nil))))
def bh16 : S := (.ret (.and (.call 15 (.cons (.lend 1) (.cons (.tup (.cons (.mov 9) (.cons (.mov 13) .nil))) (.cons (.tup .nil) .nil)))) (.call 15 (.cons (.lend 1) (.cons (.tup (.cons (.mov 13) (.cons (.mov 11) (.cons (.mov 9) .nil)))) (.cons (.tup (.cons (.tup (.cons (.int 0) (.cons (.int 1) .nil))) (.cons (.tup (.cons (.int 2) (.cons (.int 1) .nil))) .nil))) .nil))))))
theorem bh_eq : c__law_by_hand = (.cons bh0 (.cons bh1 (.cons bh2 (.cons bh3 (.cons bh4 (.cons bh5 (.cons bh6 (.cons bh7 (.cons bh8 (.cons bh9 (.cons bh10 (.cons bh11 (.cons bh12 (.cons bh13 (.cons bh14 (.cons bh15 (.cons bh16 .nil))))))))))))))))) := rfl
theorem bh_a (gl : Nat → Option D) (call : Nat → List D → R D) (mm : Nat) (h1 : 1 ≤ mm) (h2 : mm ≤ 100) (great : Int) (W : List D) (ok : Nat → Bool) (o : ∀ i, 4 ≤ i → ok i = true) (hW : D.immL W = true) (J0 J1 J2 J3 : D) (n0 : J0.isNo = false) (n1 : J1.isNo = false) (n2 : J2.isNo = false) (k : Nat) (p d : Int) (W1 : List D) (hW1 : D.immL W1 = true)
    (c1 : call 7 [J0, .int ((W.length : Int) + 1)] = .ok (.int (k : Int)) [J1, .int ((W.length : Int) + 1)]) (c2 : call 7 [J1, .int great] = .ok (.int p) [J2, .int great])
    (c3 : call 14 [.tup W, .int (k : Int), .tup [.tup (List.replicate mm .non), .int p]] = .ok (.tup W1) [.tup W, .int (k : Int), .tup [.tup (List.replicate mm .non), .int p]])
    (c4 : Asks call mm W1 [i2 k k]) (c5 : call 7 [J2, .int great] = .ok (.int d) [J3, .int great]) (rest : Ss) :
    evSs gl call fuel (.cons bh0 (.cons bh1 (.cons bh2 (.cons bh3 (.cons bh4 rest))))) ok [J0, .int (mm : Int), .tup W, .int great, .no, .no, .no, .no, .no, .no, .no, .no, .no, .no, .no, .no] = evSs gl call fuel rest ok [J3, .int (mm : Int), .tup W, .int great, .int (W.length : Int), .int (k : Int), .tup W1, .int d, .no, .no, .no, .no, .no, .no, .no, .no] := by
  have o4 := o 4 (by decide)
  have o5 := o 5 (by decide)
  have o6 := o 6 (by decide)
  have o7 := o 7 (by decide)
  unfold Asks i2 at c4
  have om := o_rep (x := .non) rfl h1 (show mm ≤ 1000 by omega)
  unfold bh0 bh1 bh2 bh3 bh4
  simp [-List.map_replicate, n0, n1, n2, c1, c2, c3, c4, c5, o4, o5, o6, o7, om, hW, hW1]
theorem bh_b (gl : Nat → Option D) (call : Nat → List D → R D) (mm : Nat) (h1 : 1 ≤ mm) (h2 : mm ≤ 100) (great : Int) (W : List D) (ok : Nat → Bool) (o : ∀ i, 4 ≤ i → ok i = true) (k : Nat) (d : Int) (W1 : List D) (hd : ∀ j : Jar, j.Ok → ∃ (v : Int) (j' : Jar), 0 ≤ v ∧ j'.Ok ∧ call 7 [j.d, .int 3] = .ok (.int v) [j'.d, .int 3]) (j : Jar) (hj : j.Ok) :
    ∃ (L : List Int) (j' : Jar), L.length = mm ∧ (∀ t ∈ L, d < t) ∧ j'.Ok ∧ evS gl call fuel bh5 ok [j.d, .int (mm : Int), .tup W, .int great, .int (W.length : Int), .int (k : Int), .tup W1, .int d, .no, .no, .no, .no, .no, .no, .no, .no] = .nx [j'.d, .int (mm : Int), .tup W, .int great, .int (W.length : Int), .int (k : Int), .tup W1, .int d, .tup (L.map .int), .no, .no, .no, .no, .no, .no, .no] := by
  have jn : ∀ j : Jar, j.d.isNo = false := fun _ => rfl
  obtain ⟨xs, ρ', e1, j', L, hxs, hρ, q1, q2, q3⟩ := compL_inv (turn := cturn gl call (.bin .add (.bin .add (.var 7) (.int 1)) (.call 7 (.cons (.lend 0) (.cons (.int 3) .nil)))) (.nm 14) (.bl true) [14])
    (fun i acc ρ => ∃ (j' : Jar) (L : List Int), acc = L.map .int ∧ ρ = [j'.d, .int (mm : Int), .tup W, .int great, .int (W.length : Int), .int (k : Int), .tup W1, .int d, .no, .no, .no, .no, .no, .no, .no, .no] ∧ j'.Ok ∧ L.length = i ∧ ∀ t ∈ L, d < t) (rngL 0 (mm : Int)) [j.d, .int (mm : Int), .tup W, .int great, .int (W.length : Int), .int (k : Int), .tup W1, .int d, .no, .no, .no, .no, .no, .no, .no, .no] 0 [] ⟨j, [], rfl, rfl, hj, rfl, fun _ m => nomatch m⟩ (fun i q acc ρ hq hp => by
      obtain ⟨j1, L, rfl, rfl, p1, p2, p3⟩ := hp
      obtain ⟨v, j2, v1, v2, v3⟩ := hd j1 p1
      refine ⟨some (.int (d + 1 + v)), [j2.d, .int (mm : Int), .tup W, .int great, .int (W.length : Int), .int (k : Int), .tup W1, .int d, .no, .no, .no, .no, .no, .no, .no, .no], ?_, j2, L ++ [d + 1 + v], by simp, rfl, v2, by simp [p2], fun t m => ?_⟩
      · simp [cturn, Ev.wipe, jn, v3]
      · rcases List.mem_append.mp m with m | m
        · exact p3 t m
        · rw [List.mem_singleton.mp m]; omega)
  rw [List.nil_append] at hxs
  have hl : (rngL 0 (mm : Int)).length = mm := by rw [rngL_0]; simp
  rw [hl, Nat.zero_add] at q2
  refine ⟨L, j', q2, q3, q1, ?_⟩
  unfold bh5
  have ec : evM gl call (.comp (.bin .add (.bin .add (.var 7) (.int 1)) (.call 7 (.cons (.lend 0) (.cons (.int 3) .nil)))) (.nm 14) (.rng1 (.var 1)) (.bl true) false [14]) .v [j.d, .int (mm : Int), .tup W, .int great, .int (W.length : Int), .int (k : Int), .tup W1, .int d, .no, .no, .no, .no, .no, .no, .no, .no] = .ok (.lst (L.map .int)) [j'.d, .int (mm : Int), .tup W, .int great, .int (W.length : Int), .int (k : Int), .tup W1, .int d, .no, .no, .no, .no, .no, .no, .no, .no] := by
    rw [e_comp]
    have hI : evI gl call (.rng1 (.var 1)) [j.d, .int (mm : Int), .tup W, .int great, .int (W.length : Int), .int (k : Int), .tup W1, .int d, .no, .no, .no, .no, .no, .no, .no, .no] = .ok (rngL 0 (mm : Int), none) [j.d, .int (mm : Int), .tup W, .int great, .int (W.length : Int), .int (k : Int), .tup W1, .int d, .no, .no, .no, .no, .no, .no, .no, .no] := by
      simp [rngOk_of (i := (mm : Int)) (by omega) (by omega), fits_of (n := mm) (by omega)]
    rw [hI]
    show (compL _ _ [j.d, .int (mm : Int), .tup W, .int great, .int (W.length : Int), .int (k : Int), .tup W1, .int d, .no, .no, .no, .no, .no, .no, .no, .no]).bind _ = _
    rw [e1, hxs, hρ]
    rfl
  have o8 := o 8 (by decide)
  rw [u_set, x_blt, x_bsc, b_comp, ec]
  simp [o8]
theorem bh_c (gl : Nat → Option D) (call : Nat → List D → R D) (mm : Nat) (h1 : 1 ≤ mm) (h2 : mm ≤ 100) (great : Int) (W : List D) (ok : Nat → Bool) (o : ∀ i, 4 ≤ i → ok i = true) (k : Nat) (d : Int) (W1 L : List D) (hL : D.immL L = true) (J : D) (c1 : Asks call mm [.tup [.tup L, .int d]] [i2 0 0]) (c2 : Asks call mm [.tup [.tup L, .int d], .tup [.tup L, .int d]] [i2 0 0, i2 1 1]) (rest : Ss) :
    evSs gl call fuel (.cons bh6 (.cons bh7 rest)) ok [J, .int (mm : Int), .tup W, .int great, .int (W.length : Int), .int (k : Int), .tup W1, .int d, .tup L, .no, .no, .no, .no, .no, .no, .no] = evSs gl call fuel rest ok [J, .int (mm : Int), .tup W, .int great, .int (W.length : Int), .int (k : Int), .tup W1, .int d, .tup L, .tup [.tup L, .int d], .no, .no, .no, .no, .no, .no] := by
  have o9 := o 9 (by decide)
  unfold Asks i2 at c1 c2
  unfold bh6 bh7
  simp [c1, c2, o9, hL]
theorem bh_d (gl : Nat → Option D) (call : Nat → List D → R D) (mm : Nat) (h1 : 1 ≤ mm) (h2 : mm ≤ 100) (great : Int) (W : List D) (ok : Nat → Bool) (o : ∀ i, 4 ≤ i → ok i = true) (k : Nat) (d : Int) (W1 : List D) (L : List Int) (J P : D) :
    evS gl call fuel bh8 ok [J, .int (mm : Int), .tup W, .int great, .int (W.length : Int), .int (k : Int), .tup W1, .int d, tD L, P, .no, .no, .no, .no, .no, .no] = .nx [J, .int (mm : Int), .tup W, .int great, .int (W.length : Int), .int (k : Int), .tup W1, .int d, tD L, P, tD (L.map fun t => t - 1), .no, .no, .no, .no, .no] := by
  have o10 := o 10 (by decide)
  have ec : evM gl call (.comp (.bin .sub (.var 15) (.int 1)) (.nm 15) (.froz 8) (.bl true) false [15]) .v [J, .int (mm : Int), .tup W, .int great, .int (W.length : Int), .int (k : Int), .tup W1, .int d, tD L, P, .no, .no, .no, .no, .no, .no] = .ok (.lst ((L.map fun t => t - 1).map .int)) [J, .int (mm : Int), .tup W, .int great, .int (W.length : Int), .int (k : Int), .tup W1, .int d, tD L, P, .no, .no, .no, .no, .no, .no] := by
    refine (comp_ok (fz := none) (ρ1 := [J, .int (mm : Int), .tup W, .int great, .int (W.length : Int), .int (k : Int), .tup W1, .int d, tD L, P, .no, .no, .no, .no, .no, .no]) (ds := L.map .int) (fun x => match x with
      | .int t => some (.int (t - 1))
      | _ => none) ?_ ?_ rfl).trans ?_
    · simp [items, D.still, tD]
    · intro x hx
      obtain ⟨t, _, rfl⟩ := List.mem_map.mp hx
      simp [cturn, Ev.wipe]
    · congr 2
      rw [List.filterMap_map]
      induction L with
      | nil => rfl
      | cons t L ih => simp; simpa using ih
  unfold bh8
  rw [u_set, x_blt, x_bsc, b_comp, ec]
  simp [o10, tD]
theorem bh_e (gl : Nat → Option D) (call : Nat → List D → R D) (mm : Nat) (h1 : 1 ≤ mm) (h2 : mm ≤ 100) (great : Int) (W : List D) (ok : Nat → Bool) (o : ∀ i, 4 ≤ i → ok i = true) (k : Nat) (d m : Int) (W1 E : List D) (hE : D.immL E = true) (hm : Blt.run .max [.tup E] = some (.int m)) (J L P : D) (c1 : Asks call mm [.tup [.tup E, .int m]] []) (c2 : Asks call mm [.tup [.tup E, .int m], .tup [.tup E, .int m]] [])
    (c3 : Asks call mm [.tup [.tup E, .int m], .tup [.tup E, .int (m + 1)]] [i2 0 1]) (c4 : Asks call mm [.tup [.tup E, .int (m + 1)], .tup [.tup E, .int m]] [i2 1 0]) (c5 : Asks call mm [.tup [.tup E, .non], .tup [.tup E, .int m]] [i2 1 0]) (c6 : Asks call mm [.tup [.tup E, .non], .tup [.tup (List.replicate mm .non), .non]] []) (rest : Ss) :
    evSs gl call fuel (.cons bh9 (.cons bh10 (.cons bh11 (.cons bh12 (.cons bh13 (.cons bh14 rest)))))) ok [J, .int (mm : Int), .tup W, .int great, .int (W.length : Int), .int (k : Int), .tup W1, .int d, L, P, .tup E, .no, .no, .no, .no, .no] = evSs gl call fuel rest ok [J, .int (mm : Int), .tup W, .int great, .int (W.length : Int), .int (k : Int), .tup W1, .int d, L, .tup [.tup E, .int m], .tup E, .tup [.tup E, .int (m + 1)], .tup [.tup E, .non], .no, .no, .no] := by
  have o9 := o 9 (by decide)
  have o11 := o 11 (by decide)
  have o12 := o 12 (by decide)
  unfold Asks at c1 c2 c3 c4 c5 c6
  unfold i2 at c3 c4 c5
  have om := o_rep (x := .non) rfl h1 (show mm ≤ 1000 by omega)
  have him : D.immL (List.replicate mm D.non) = true := immL_of fun x m => by rw [(List.mem_replicate.mp m).2]; rfl
  unfold bh9 bh10 bh11 bh12 bh13 bh14
  simp [c1, c2, c3, c4, c5, c6, o9, o11, o12, hE, hm, om, him]
theorem bh_f (gl : Nat → Option D) (call : Nat → List D → R D) (mm : Nat) (h1 : 1 ≤ mm) (h2 : mm ≤ 100) (great : Int) (W : List D) (ok : Nat → Bool) (o : ∀ i, 4 ≤ i → ok i = true) (k : Nat) (d m : Int) (W1 : List D) (E : List Int) (hm : Blt.run .max [tD E] = some (.int m)) (J L P9 P11 P12 : D) (i9 : P9.imm = true) (i11 : P11.imm = true) (n9 : P9.isNo = false) (n11 : P11.isNo = false)
    (c1 : Asks call mm [P9, .tup [tD (E.map fun t => t + 1), .int (m + 1)]] []) (c2 : Asks call mm [.tup [tD (E.map fun t => t + 1), .int (m + 1)], P11, P9] [i2 0 1, i2 2 1]) :
    evSs gl call fuel (.cons bh15 (.cons bh16 .nil)) ok [J, .int (mm : Int), .tup W, .int great, .int (W.length : Int), .int (k : Int), .tup W1, .int d, L, P9, tD E, P11, P12, .no, .no, .no] = .rt (.bl true) [J, .int (mm : Int), .tup W, .int great, .int (W.length : Int), .int (k : Int), .tup W1, .int d, L, P9, tD E, P11, P12, .tup [tD (E.map fun t => t + 1), .int (m + 1)], .no, .no] := by
  have o13 := o 13 (by decide)
  have ec : evM gl call (.comp (.bin .add (.var 15) (.int 1)) (.nm 15) (.froz 10) (.bl true) false [15]) .v [J, .int (mm : Int), .tup W, .int great, .int (W.length : Int), .int (k : Int), .tup W1, .int d, L, P9, tD E, P11, P12, .no, .no, .no] = .ok (.lst ((E.map fun t => t + 1).map .int)) [J, .int (mm : Int), .tup W, .int great, .int (W.length : Int), .int (k : Int), .tup W1, .int d, L, P9, tD E, P11, P12, .no, .no, .no] := by
    refine (comp_ok (fz := none) (ρ1 := [J, .int (mm : Int), .tup W, .int great, .int (W.length : Int), .int (k : Int), .tup W1, .int d, L, P9, tD E, P11, P12, .no, .no, .no]) (ds := E.map .int) (fun x => match x with
      | .int t => some (.int (t + 1))
      | _ => none) ?_ ?_ rfl).trans ?_
    · simp [items, D.still, tD]
    · intro x hx
      obtain ⟨t, _, rfl⟩ := List.mem_map.mp hx
      simp [cturn, Ev.wipe]
    · congr 2
      rw [List.filterMap_map]
      clear hm c1 c2
      induction E with
      | nil => rfl
      | cons t L ih => simp; simpa using ih
  have s15 : evS gl call fuel bh15 ok [J, .int (mm : Int), .tup W, .int great, .int (W.length : Int), .int (k : Int), .tup W1, .int d, L, P9, tD E, P11, P12, .no, .no, .no] = .nx [J, .int (mm : Int), .tup W, .int great, .int (W.length : Int), .int (k : Int), .tup W1, .int d, L, P9, tD E, P11, P12, .tup [tD (E.map fun t => t + 1), .int (m + 1)], .no, .no] := by
    unfold bh15
    have nE : (tD E).isNo = false := rfl
    have ht : (tD (E.map fun t => t + 1)) = .tup ((E.map fun t => t + 1).map .int) := rfl
    have hi2 := immL_ints (E.map fun t => t + 1)
    rw [u_set, x_tup, x_esc, x_blt, x_bsc, b_comp, ec]
    rw [ht]
    generalize (E.map fun t => t + 1).map D.int = E2 at *
    generalize tD E = E3 at *
    simp [o13, hm, nE, hi2]
  rw [e_cons, s15, e_nx]
  unfold Asks at c1 c2
  unfold i2 at c2
  have hi : (tD (E.map fun t => t + 1)).imm = true := immL_ints _
  generalize tD (E.map fun t => t + 1) = E2 at *
  generalize tD E = E3 at *
  unfold bh16
  simp [c1, c2, i9, i11, n9, n11, hi]
end K
end

section
set_option maxRecDepth 100000
set_option linter.all false
namespace K
open Ev
/-! ### plain: own causes, times, bars -/
theorem maxI_const {xs : List Int} (h : xs ≠ []) {v : Int} (e : ∀ x ∈ xs, x = v) : maxI xs = some v := by
  obtain ⟨u, hu⟩ := maxI_some h
  rw [hu, e u (maxI_mem hu).1]
theorem own_none_of {ts : List (Option Int)} {d : Int} (h : ∀ x ∈ ts.map (ownF d), x < 0) : own ts (some d) = none := by
  show (if 0 ≤ (maxI (ts.map (ownF d))).getD (-1) then _ else _) = _
  rw [if_neg]
  cases hm : maxI (ts.map (ownF d)) with
  | none => decide
  | some v => have := h v (maxI_mem hm).1; show ¬ 0 ≤ v; omega
theorem own_some_of {ts : List (Option Int)} {d : Int} {x : Int} (m : x ∈ ts.map (ownF d)) (h : 0 ≤ x) : own ts (some d) = some (ts.map (ownF d)) := by
  show (if 0 ≤ (maxI (ts.map (ownF d))).getD (-1) then _ else _) = _
  rw [if_pos]
  obtain ⟨v, hv⟩ := maxI_some (xs := ts.map (ownF d)) (List.ne_nil_of_mem m)
  rw [hv]
  have := (maxI_mem hv).2 x m
  show 0 ≤ v
  omega
def tsB (es : List Int) (b : Int) : List (Option Int) := es.map fun t => some (t + b)
def cfE (es : List Int) (q b : Int) : List Int := es.map fun t => q - (t + b)
theorem own_tsB {es : List Int} (ne : es ≠ []) {q b : Int} (h : ∀ t ∈ es, t + b ≤ q) : own (tsB es b) (some q) = some (cfE es q b) := by
  have e : (tsB es b).map (ownF q) = cfE es q b := by
    unfold tsB cfE
    rw [List.map_map]
    refine List.map_congr_left fun t m => ?_
    show (if t + b ≤ q then q - (t + b) else -1) = _
    rw [if_pos (h t m)]
  obtain ⟨t, ts, rfl⟩ : ∃ t ts, es = t :: ts := by cases es with | nil => exact absurd rfl ne | cons t ts => exact ⟨t, ts, rfl⟩
  have := own_some_of (ts := tsB (t :: ts) b) (d := q) (x := q - (t + b)) (by rw [e]; exact List.mem_cons_self) (by have := h t List.mem_cons_self; omega)
  rw [this, e]
theorem come_tsB {es : List Int} (ne : es ≠ []) {q b : Int} (h : ∀ t ∈ es, t + b ≤ q) (b' : Int) : come ((cfE es q b).zip (tsB es b')) = some (q - b + b') := by
  have e : (cfE es q b).zip (tsB es b') = es.map fun t => (q - (t + b), some (t + b')) := by unfold cfE tsB; rw [List.zip_map']
  have es1 : sel (es.map fun t => (q - (t + b), some (t + b'))) = es.map fun t => (q - (t + b), some (t + b')) := by
    unfold sel
    rw [List.filter_eq_self]
    intro z m
    obtain ⟨t, mt, rfl⟩ := List.mem_map.mp m
    have := h t mt
    simp; omega
  rw [e]
  unfold come
  rw [es1, if_neg]
  · rw [maxI_const (by simpa using ne)]
    intro x m
    simp only [List.map_map, List.mem_map] at m
    obtain ⟨t, _, rfl⟩ := m
    show t + b' + (q - (t + b)) = _
    omega
  · intro hh
    obtain ⟨z, m, hz⟩ := List.any_eq_true.mp hh
    obtain ⟨t, _, rfl⟩ := List.mem_map.mp m
    cases hz
theorem come_nones {c : List Int} {mm : Nat} (hl : c.length = mm) (hp : ∃ x ∈ c, 0 ≤ x) : come (c.zip (List.replicate mm none)) = none := by
  have hs := sel_ne (c := c) (ts := List.replicate mm none) (by simpa using hl) hp
  unfold come
  rw [if_pos]
  obtain ⟨z, hz⟩ := List.exists_mem_of_ne_nil _ hs
  refine List.any_eq_true.mpr ⟨z, hz, ?_⟩
  have mz : z ∈ c.zip (List.replicate mm none) := (List.mem_filter.mp hz).1
  have := (List.of_mem_zip mz).2
  rw [(List.mem_replicate.mp this).2]; rfl
theorem own_nones (mm : Nat) (p : Int) : own (List.replicate mm none) (some p) = none := own_none_of fun x m => by
  rw [List.map_replicate] at m
  rw [(List.mem_replicate.mp m).2]; show (-1 : Int) < 0; decide
theorem hit_tsB {es : List Int} (ne : es ≠ []) {q b : Int} (h : ∀ t ∈ es, t + b ≤ q) (b' q' : Int) : hit (cfE es q b) (tsB es b', some q') = decide (q - b + b' < q') := by
  unfold hit; rw [come_tsB ne h]; rfl
theorem hit_tsN {es : List Int} (ne : es ≠ []) {q b : Int} (h : ∀ t ∈ es, t + b ≤ q) (b' : Int) : hit (cfE es q b) (tsB es b', none) = true := by
  unfold hit; rw [come_tsB ne h]; rfl
theorem hit_nones {c : List Int} {mm : Nat} (hl : c.length = mm) (hp : ∃ x ∈ c, 0 ≤ x) (o : Option Int) : hit c (List.replicate mm none, o) = false := by
  unfold hit; rw [come_nones hl hp]; rfl
theorem bars_1 (a : Wish) : bars [a] = barsAt [a] 0 a := by simp [bars]
theorem bars_2 (a b : Wish) : bars [a, b] = barsAt [a, b] 0 a ++ barsAt [a, b] 1 b := by simp [bars]
theorem bars_3 (a b c : Wish) : bars [a, b, c] = barsAt [a, b, c] 0 a ++ (barsAt [a, b, c] 1 b ++ barsAt [a, b, c] 2 c) := by simp [bars]
theorem bA_n {ws : List Wish} {k : Nat} {w : Wish} (h : own w.1 w.2 = none) : barsAt ws k w = if w.2.isSome = true then [(k, k)] else [] := by unfold barsAt; rw [h]
theorem bA_s {ws : List Wish} {k : Nat} {w : Wish} {c : List Int} (h : own w.1 w.2 = some c) : barsAt ws k w = ws.zipIdx.flatMap fun p => if hit c p.1 = true then [(k, p.2)] else [] := by unfold barsAt; rw [h]
/-- no bars -/
structure Clear (ws : List Wish) : Prop where
  n : ∀ w ∈ ws, own w.1 w.2 = none → w.2 = none
  s : ∀ w ∈ ws, ∀ c, own w.1 w.2 = some c → ∀ v ∈ ws, hit c v = false
theorem flat_nil {α β : Type} {f : α × Nat → List β} {l : List α} {o : Nat} (h : ∀ x ∈ l, ∀ i, f (x, i) = []) : (l.zipIdx o).flatMap f = [] := by
  rw [List.flatMap_eq_nil_iff]
  intro p m
  obtain ⟨x, i⟩ := p
  exact h x (List.fst_mem_of_mem_zipIdx m) i
theorem Clear.at {ws us : List Wish} {w : Wish} (hn : own w.1 w.2 = none → w.2 = none) (hs : ∀ c, own w.1 w.2 = some c → ∀ v ∈ us, hit c v = false) (k : Nat) : barsAt us k w = [] := by
  cases ho : own w.1 w.2 with
  | none => rw [bA_n ho, hn ho]; rfl
  | some c => rw [bA_s ho]; exact flat_nil fun x m i => by show (if hit c x = true then _ else _) = _; rw [hs c ho x m]; rfl
theorem Clear.bars {ws : List Wish} (h : Clear ws) : bars ws = [] := flat_nil fun w m i => Clear.at (ws := ws) (h.n w m) (h.s w m) i
theorem Clear.put {ws : List Wish} (h : Clear ws) {mm : Nat} (hg : Good mm ws) (k : Nat) (hk : k ≤ ws.length) (p : Int) : K.bars (putW ws k (List.replicate mm none, some p)) = [(k, k)] := by
  have old : ∀ w ∈ ws, ∀ i, barsAt (putW ws k (List.replicate mm none, some p)) i w = [] := fun w m i => Clear.at (ws := ws) (h.n w m) (fun c hc v mv => by
    unfold putW at mv
    simp only [List.mem_append, List.mem_singleton] at mv
    rcases mv with (mv | rfl) | mv
    · exact h.s w m c hc v (List.mem_of_mem_take mv)
    · obtain ⟨l1, l2⟩ := own_len hc
      exact hit_nones (by rw [l1, hg.ok w m]) l2 _
    · exact h.s w m c hc v (List.mem_of_mem_drop mv)) i
  have new : barsAt (putW ws k (List.replicate mm none, some p)) k (List.replicate mm none, some p) = [(k, k)] := by rw [bA_n (own_nones mm p)]; rfl
  have lt : (ws.take k).length = k := by rw [List.length_take]; omega
  unfold K.bars
  generalize hP : barsAt (putW ws k (List.replicate mm none, some p)) = P at *
  unfold putW
  rw [List.append_assoc, List.zipIdx_append, List.flatMap_append, List.zipIdx_append, List.flatMap_append]
  rw [flat_nil (f := fun p => P p.2 p.1) (l := ws.take k) fun x m i => old x (List.mem_of_mem_take m) i, flat_nil (f := fun p => P p.2 p.1) (l := ws.drop k) fun x m i => old x (List.mem_of_mem_drop m) i]
  rw [lt]
  simp [new]
/-! ### _law_by_hand -/
theorem tO_tsB0 (E : List Int) : tO (tsB E 0) = tD E := by unfold tO tsB tD; rw [List.map_map]; congr 1; refine List.map_congr_left fun t _ => ?_; show D.int (t + 0) = _; rw [Int.add_zero]
theorem tO_tsB1 (E : List Int) : tO (tsB E 1) = tD (E.map fun t => t + 1) := by unfold tO tsB tD; rw [List.map_map, List.map_map]; congr 1
theorem r_by_hand (n : Nat) (mm : Nat) (ws : List Wish) (g : Good mm ws) (hs : ws.length ≤ 39) (hc : Clear ws) (j : Jar) (hj : j.Ok) (great : Int) (g0 : 0 < great) (g1 : great < 1073741824)
    (asked : ∀ us, Good mm us → Asks (run pg fuel (n + 6)) mm (us.map wD) ((bars us).map pD)) :
    ∃ j' : Jar, run pg fuel (n + 7) f__law_by_hand [j.d, .int (mm : Int), .tup (ws.map wD), .int great] = .ok (.bl true) [j'.d, .int (mm : Int), .tup (ws.map wD), .int great] := by
  have lo := g.lo
  have hi := g.hi
  have hlen : (ws.map wD).length = ws.length := List.length_map ..
  obtain ⟨a, j1, a1, a2, a3, a4⟩ := r_dip (n + 5) j hj ((ws.length : Int) + 1) (by omega) (by omega)
  obtain ⟨k, rfl⟩ := Int.eq_ofNat_of_zero_le a1
  have hk : k ≤ ws.length := by omega
  obtain ⟨p, j2, b1, b2, b3, b4⟩ := r_dip (n + 5) j1 a3 great g0 g1
  obtain ⟨d, j3, c1, c2, c3, c4⟩ := r_dip (n + 5) j2 b3 great g0 g1
  have o : ∀ i, 4 ≤ i → okP [j.d, .int (mm : Int), .tup (ws.map wD), .int great] i = true := fun i hi => by unfold okP; rw [List.getElem?_eq_none (by simpa using hi)]
  obtain ⟨L, j4, L1, L2, L3, L4⟩ := bh_b (fun g => pg.glb[g]?) (run pg fuel (n + 6)) mm lo hi great (ws.map wD) _ o k d ((putW ws k (List.replicate mm none, some p)).map wD)
    (fun j hj => by obtain ⟨v, j', v1, v2, v3, v4⟩ := r_dip (n + 5) j hj 3 (by decide) (by decide); exact ⟨v, j', v1, v3, v4⟩) j3 c3
  -- the rows by hand
  have goodW : ∀ us : List Wish, us.length ≤ 3 → (∀ w ∈ us, w.1.length = mm) → Good mm us := fun us h1 h2 => ⟨h2, lo, hi, by omega⟩
  have hput : Good mm (putW ws k (List.replicate mm none, some p)) := ⟨fun w m => by
    unfold putW at m
    simp only [List.mem_append, List.mem_singleton] at m
    rcases m with (m | rfl) | m
    · exact g.ok w (List.mem_of_mem_take m)
    · simp
    · exact g.ok w (List.mem_of_mem_drop m), lo, hi, by unfold putW; simp; omega⟩
  obtain ⟨E, hE⟩ : ∃ E : List Int, E = L.map fun t => t - 1 := ⟨_, rfl⟩
  have hLE : tD L = tO (tsB E 1) := by
    have e : (E.map fun t => t + 1) = L := by rw [hE, List.map_map]; exact (List.map_congr_left fun t _ => by show t - 1 + 1 = id t; show t - 1 + 1 = t; omega).trans (List.map_id L)
    rw [tO_tsB1, e]
  have El : E.length = mm := by rw [hE, List.length_map, L1]
  have Ene : E ≠ [] := by intro e; rw [e] at El; simp at El; omega
  obtain ⟨m, hm⟩ := maxI_some Ene
  have hmx := maxI_mem hm
  have h0 : ∀ t ∈ E, t + 0 ≤ m := fun t mt => by have := hmx.2 t mt; omega
  have h01 : ∀ t ∈ E, t + 0 ≤ m + 1 := fun t mt => by have := hmx.2 t mt; omega
  have h1 : ∀ t ∈ E, t + 1 ≤ m + 1 := fun t mt => by have := hmx.2 t mt; omega
  have hEd : ∀ t ∈ E, d ≤ t := fun t mt => by rw [hE] at mt; obtain ⟨u, mu, rfl⟩ := List.mem_map.mp mt; have := L2 u mu; omega
  have olate : own (tsB E 1) (some d) = none := own_none_of fun x mx => by
    unfold tsB at mx
    rw [List.map_map] at mx
    obtain ⟨t, mt, rfl⟩ := List.mem_map.mp mx
    have := hEd t mt
    show (if t + 1 ≤ d then d - (t + 1) else -1) < 0
    rw [if_neg (by omega)]; decide
  have o_pr := own_tsB Ene h0
  have o_la := own_tsB Ene h01
  have o_mv := own_tsB Ene h1
  have o_ne : own (tsB E 0) none = none := rfl
  have o_nn : own (List.replicate mm none) none = none := rfl
  have t0 : (tsB E 0).length = mm := by unfold tsB; rw [List.length_map, El]
  have t1 : (tsB E 1).length = mm := by unfold tsB; rw [List.length_map, El]
  have hits := fun q b h b' q' => hit_tsB (es := E) Ene (q := q) (b := b) h b' q'
  -- what is asked
  have q0 := asked _ hput
  rw [hc.put g k hk p] at q0
  have q1 := asked [(tsB E 1, some d)] (goodW _ (by simp) (by simpa using t1))
  rw [bars_1, bA_n olate] at q1
  have q2 := asked [(tsB E 1, some d), (tsB E 1, some d)] (goodW _ (by simp) (by simpa using t1))
  rw [bars_2, bA_n olate, bA_n olate] at q2
  have q3 := asked [(tsB E 0, some m)] (goodW _ (by simp) (by simpa using t0))
  rw [bars_1, bA_s o_pr] at q3
  have q4 := asked [(tsB E 0, some m), (tsB E 0, some m)] (goodW _ (by simp) (by simpa using t0))
  rw [bars_2, bA_s o_pr, bA_s o_pr] at q4
  have q5 := asked [(tsB E 0, some m), (tsB E 0, some (m + 1))] (goodW _ (by simp) (by simpa using t0))
  rw [bars_2, bA_s o_pr, bA_s o_la] at q5
  have q6 := asked [(tsB E 0, some (m + 1)), (tsB E 0, some m)] (goodW _ (by simp) (by simpa using t0))
  rw [bars_2, bA_s o_la, bA_s o_pr] at q6
  have q7 := asked [(tsB E 0, none), (tsB E 0, some m)] (goodW _ (by simp) (by simpa using t0))
  rw [bars_2, bA_n o_ne, bA_s o_pr] at q7
  have q8 := asked [(tsB E 0, none), (List.replicate mm none, none)] (goodW _ (by simp) (by simpa using t0))
  rw [bars_2, bA_n o_ne, bA_n o_nn] at q8
  have q9 := asked [(tsB E 0, some m), (tsB E 1, some (m + 1))] (goodW _ (by simp) (by simp [t0, t1]))
  rw [bars_2, bA_s o_pr, bA_s o_mv] at q9
  have q10 := asked [(tsB E 1, some (m + 1)), (tsB E 0, some (m + 1)), (tsB E 0, some m)] (goodW _ (by simp) (by simp [t0, t1]))
  rw [bars_3, bA_s o_mv, bA_s o_la, bA_s o_pr] at q10
  have nl1 : ¬ m - 0 + 0 < m := by omega
  have nl2 : m - 0 + 0 < m + 1 := by omega
  have nl3 : ¬ m + 1 - 0 + 0 < m := by omega
  have nl4 : ¬ m + 1 - 0 + 0 < m + 1 := by omega
  have nl5 : ¬ m - 0 + 1 < m + 1 := by omega
  have nl6 : ¬ m + 1 - 1 + 1 < m + 1 := by omega
  have nl7 : m + 1 - 1 + 0 < m + 1 := by omega
  have nl8 : ¬ m + 1 - 1 + 0 < m := by omega
  have nl9 : ¬ m + 1 - 0 + 1 < m + 1 := by omega
  have z1 : ∀ a : Wish, [a].zipIdx = [(a, 0)] := fun _ => rfl
  have z2 : ∀ a b : Wish, [a, b].zipIdx = [(a, 0), (b, 1)] := fun _ _ => rfl
  have z3 : ∀ a b c : Wish, [a, b, c].zipIdx = [(a, 0), (b, 1), (c, 2)] := fun _ _ _ => rfl
  simp only [z1, z2, z3, List.flatMap_cons, List.flatMap_nil, hit_tsB Ene h0, hit_tsB Ene h01, hit_tsB Ene h1, hit_tsN Ene h0, decide_eq_true_eq, if_neg nl1, if_pos nl2, if_neg nl3, if_neg nl4, if_neg nl5, if_neg nl6, if_pos nl7, if_neg nl8, if_neg nl9, if_true, List.append_nil, List.nil_append, Option.isSome_some, Option.isSome_none, Bool.false_eq_true, if_false] at q1 q2 q3 q4 q5 q6 q7 q8 q9 q10
  have hmD : Blt.run .max [tD E] = some (.int m) := by rw [show tD E = .tup (E.map .int) from rfl, max_tup, hm]; rfl
  rw [show n + 7 = (n + 6) + 1 from rfl, run_eq (df := d__law_by_hand) rfl rfl (by decide)]
  rw [show ([j.d, .int (mm : Int), .tup (ws.map wD), .int great] ++ List.replicate (d__law_by_hand.ns - d__law_by_hand.ps) D.no) = [j.d, .int (mm : Int), .tup (ws.map wD), .int great, .no, .no, .no, .no, .no, .no, .no, .no, .no, .no, .no, .no] from rfl, show d__law_by_hand.body = c__law_by_hand from rfl]
  refine ⟨j4, ?_⟩
  have hrep : (tO (List.replicate mm none)) = .tup (List.replicate mm .non) := by unfold tO; rw [List.map_replicate]; rfl
  have hP := r_put (n + 5) ws (by omega) k (List.replicate mm none, some p)
  rw [show wD (List.replicate mm none, some p) = .tup [.tup (List.replicate mm .non), .int p] by unfold wD; rw [hrep]; rfl] at hP
  rw [bh_eq, bh_a _ _ mm lo hi great (ws.map wD) _ o (immL_wD ws) j.d j1.d j2.d j3.d rfl rfl rfl k p d ((putW ws k (List.replicate mm none, some p)).map wD) (immL_wD _) (by rw [hlen]; exact a4) b4 hP q0 c4]
  rw [e_cons, L4, e_nx]
  have q1' : Asks (run pg fuel (n + 6)) mm [.tup [.tup (L.map .int), .int d]] [i2 0 0] := by
    have := q1
    simp only [List.map_cons, List.map_nil, wD, ← hLE] at this
    exact this
  have q2' : Asks (run pg fuel (n + 6)) mm [.tup [.tup (L.map .int), .int d], .tup [.tup (L.map .int), .int d]] [i2 0 0, i2 1 1] := by
    have := q2
    simp only [List.map_cons, List.map_nil, wD, ← hLE] at this
    exact this
  rw [bh_c _ _ mm lo hi great (ws.map wD) _ o k d _ (L.map .int) (immL_ints _) j4.d q1' q2']
  rw [e_cons]
  have hbd := bh_d (fun g => pg.glb[g]?) (run pg fuel (n + 6)) mm lo hi great (ws.map wD) _ o k d ((putW ws k (List.replicate mm none, some p)).map wD) L j4.d (.tup [.tup (L.map .int), .int d])
  rw [hlen] at hbd ⊢
  rw [show (D.tup (L.map .int)) = tD L from rfl]
  rw [show (D.tup (L.map .int)) = tD L from rfl] at hbd
  rw [hbd, e_nx, ← hE]
  simp only [List.map_cons, List.map_nil, wD, tO_tsB0, tO_tsB1, hrep] at q3 q4 q5 q6 q7 q8 q9 q10
  have hbe := bh_e (fun g => pg.glb[g]?) (run pg fuel (n + 6)) mm lo hi great (ws.map wD) _ o k d m ((putW ws k (List.replicate mm none, some p)).map wD) (E.map .int) (immL_ints _) hmD j4.d (tD L) (.tup [tD L, .int d]) q3 q4 q5 q6 q7 q8
  rw [hlen] at hbe
  rw [show (D.tup (E.map .int)) = tD E from rfl] at hbe
  rw [hbe]
  have hbf := bh_f (fun g => pg.glb[g]?) (run pg fuel (n + 6)) mm lo hi great (ws.map wD) _ o k d m ((putW ws k (List.replicate mm none, some p)).map wD) E hmD j4.d (tD L) (.tup [tD E, .int m]) (.tup [tD E, .int (m + 1)]) (.tup [tD E, .non]) (by simp [tD]) (by simp [tD]) rfl rfl q9 q10
  rw [hlen] at hbf
  rw [hbf]
  have hW := immL_wD ws
  show R.ok (D.bl true) [_, _, if D.immL (ws.map wD) = true then D.tup (ws.map wD) else D.tup (ws.map wD), _] = _
  rw [hW]; rfl
end K
end

section
set_option maxRecDepth 100000
set_option linter.all false
namespace K
open Ev
/-! ### plain: wishes of causes have no bars -/
theorem come_le {zs : List (Int × Option Int)} {x : Int} (h : come zs = some x) : ∀ z ∈ zs, 0 ≤ z.1 → ∃ t, z.2 = some t ∧ t + z.1 ≤ x := by
  intro z m hz
  have ms : z ∈ sel zs := List.mem_filter.mpr ⟨m, by simpa using hz⟩
  unfold come at h
  split at h
  · cases h
  · rename_i hn
    cases e : z.2 with
    | none => exact absurd (List.any_eq_true.mpr ⟨z, ms, by rw [e]; rfl⟩) hn
    | some t =>
      refine ⟨t, rfl, ?_⟩
      have := (maxI_mem h).2 (z.2.getD 0 + z.1) (List.mem_map.mpr ⟨z, ms, rfl⟩)
      rw [e] at this
      exact this
theorem le_come {zs : List (Int × Option Int)} {x : Int} (hs : sel zs ≠ []) (h : ∀ z ∈ zs, 0 ≤ z.1 → ∃ t, z.2 = some t ∧ t + z.1 ≤ x) : ∃ x', come zs = some x' ∧ x' ≤ x := by
  have hn : ¬ (sel zs).any (fun z => z.2.isNone) = true := by
    intro hh
    obtain ⟨z, m, hz⟩ := List.any_eq_true.mp hh
    obtain ⟨t, e, _⟩ := h z (List.mem_filter.mp m).1 (by simpa using (List.mem_filter.mp m).2)
    rw [e] at hz; cases hz
  obtain ⟨v, hv⟩ := maxI_some (xs := (sel zs).map fun z => z.2.getD 0 + z.1) (by simpa using hs)
  refine ⟨v, by unfold come; rw [if_neg hn, hv], ?_⟩
  obtain ⟨z, m, e⟩ := List.mem_map.mp (maxI_mem hv).1
  obtain ⟨t, e2, hl⟩ := h z (List.mem_filter.mp m).1 (by simpa using (List.mem_filter.mp m).2)
  rw [e2] at e
  have e : t + z.1 = v := e
  omega
def FitsP (mm : Nat) (cs : List (List Int)) : Prop := ∀ c ∈ cs, c.length = mm ∧ ∃ x ∈ c, 0 ≤ x
def mkW (cs : List (List Int)) (ts : List (Option Int)) : Wish := (ts, minI (times cs ts))
theorem made {cs : List (List Int)} {mm : Nat} (hf : FitsP mm cs) {ts : List (Option Int)} (ht : ts.length = mm) {d : Int} (h : minI (times cs ts) = some d) :
    ∃ c ∈ cs, c.length = mm ∧ (∃ x ∈ c, 0 ≤ x) ∧ ∀ (i : Nat) (x : Int), c[i]? = some x → 0 ≤ x → ∃ t, ts[i]? = some (some t) ∧ t + x ≤ d := by
  have m := (minI_mem h).1
  obtain ⟨c, mc, e⟩ := List.mem_filterMap.mp m
  obtain ⟨l1, l2⟩ := hf c mc
  refine ⟨c, mc, l1, l2, fun i x hx h0 => ?_⟩
  have hi : i < c.length := (List.getElem?_eq_some_iff.mp hx).1
  have hti : ts[i]? = some ts[i] := List.getElem?_eq_getElem (by omega)
  have mz : (x, ts[i]) ∈ c.zip ts := List.mem_of_getElem? (List.getElem?_zip_eq_some.mpr ⟨hx, hti⟩)
  obtain ⟨t, e1, e2⟩ := come_le e _ mz h0
  exact ⟨t, by rw [hti, show ts[i] = some t from e1], e2⟩
theorem made_clear {cs : List (List Int)} {mm : Nat} (hf : FitsP mm cs) (ws : List Wish) (hw : ∀ w ∈ ws, ∃ ts : List (Option Int), ts.length = mm ∧ w = mkW cs ts) : Clear ws := by
  have own_of : ∀ (ts : List (Option Int)) (d : Int), ts.length = mm → minI (times cs ts) = some d → own ts (some d) = some (ts.map (ownF d)) := fun ts d ht hd => by
    obtain ⟨c, mc, l1, ⟨x, mx, h0⟩, hc⟩ := made hf ht hd
    obtain ⟨i, hi, e⟩ := List.getElem_of_mem mx
    obtain ⟨t, e1, e2⟩ := hc i x (by rw [List.getElem?_eq_getElem hi, e]) h0
    refine own_some_of (x := ownF d (some t)) (List.mem_map.mpr ⟨some t, List.mem_of_getElem? e1, rfl⟩) ?_
    show 0 ≤ if t ≤ d then d - t else -1
    rw [if_pos (by omega)]; omega
  constructor
  · intro w m ho
    obtain ⟨ts, ht, rfl⟩ := hw w m
    cases hd : minI (times cs ts) with
    | none => exact hd
    | some d =>
      have ho : own ts (minI (times cs ts)) = none := ho
      rw [hd, own_of ts d ht hd] at ho; cases ho
  · intro w m oc ho v mv
    obtain ⟨ts, ht, rfl⟩ := hw w m
    obtain ⟨us, hu, rfl⟩ := hw v mv
    have ho : own ts (minI (times cs ts)) = some oc := ho
    cases hd : minI (times cs ts) with
    | none => rw [hd] at ho; cases ho
    | some d =>
      rw [hd, own_of ts d ht hd] at ho
      cases ho
      obtain ⟨c, mc, l1, l2, hc⟩ := made hf ht hd
      unfold hit
      cases hx : come ((ts.map (ownF d)).zip us) with
      | none => show ahead (come ((ts.map (ownF d)).zip us)) _ = _; rw [hx]; rfl
      | some x =>
        have key : ∀ z ∈ c.zip us, 0 ≤ z.1 → ∃ t, z.2 = some t ∧ t + z.1 ≤ x := by
          intro z mz h0
          obtain ⟨i, hi⟩ := List.getElem?_of_mem mz
          obtain ⟨z1, z2⟩ := List.getElem?_zip_eq_some.mp hi
          obtain ⟨t, e1, e2⟩ := hc i z.1 z1 h0
          have e3 : (ts.map (ownF d))[i]? = some (d - t) := by rw [List.getElem?_map, e1]; show some (if t ≤ d then d - t else -1) = _; rw [if_pos (by omega)]
          obtain ⟨u, e4, e5⟩ := come_le hx (d - t, z.2) (List.mem_of_getElem? (List.getElem?_zip_eq_some.mpr ⟨e3, z2⟩)) (show 0 ≤ d - t by omega)
          have e5 : u + (d - t) ≤ x := e5
          exact ⟨u, e4, by omega⟩
        obtain ⟨x', e6, e7⟩ := le_come (sel_ne (by omega) l2) key
        have mx : x' ∈ times cs us := List.mem_filterMap.mpr ⟨c, mc, e6⟩
        show ahead (come ((ts.map (ownF d)).zip us)) (minI (times cs us)) = false
        rw [hx]
        obtain ⟨e', he⟩ : ∃ e', minI (times cs us) = some e' := by
          cases hq : times cs us with
          | nil => rw [hq] at mx; cases mx
          | cons a as => exact ⟨_, rfl⟩
        rw [he]
        have := (minI_mem he).2 x' mx
        show decide (x < e') = false
        rw [decide_eq_false_iff_not]; omega
theorem nevers_bars (us : List (List (Option Int))) : bars (us.map fun ts => ((ts, none) : Wish)) = [] := Clear.bars ⟨fun w m h => by obtain ⟨ts, _, rfl⟩ := List.mem_map.mp m; rfl, fun w m c hc => by obtain ⟨ts, _, rfl⟩ := List.mem_map.mp m; cases hc⟩
/-! ### law -/
def lw0 : S := (.set (.nm 1) (.call 6 (.cons (.lend 0) .nil)))
def lw1 : S := (.set (.nm 2) (.idx (.lst (.cons (.int 2) (.cons (.int 3) (.cons (.int 1) (.cons (.int 4) (.cons (.int 2) (.cons (.int 6) .nil))))))) (.call 7 (.cons (.lend 1) (.cons (.int 6) .nil)))))
def lw2 : S := (.set (.nm 3) (.idx (.lst (.cons (.int 4) (.cons (.int 10) (.cons (.int 3) (.cons (.int 1000) (.cons (.int 49000) .nil)))))) (.call 7 (.cons (.lend 1) (.cons (.int 5) .nil)))))
def lw3 : S := (.set (.nm 4) (.comp (.call 12 (.cons (.lend 1) (.cons (.lend 2) (.cons (.lend 3) .nil)))) (.nm 7) (.rng1 (.idx (.lst (.cons (.int 2) (.cons (.int 1) (.cons (.int 3) (.cons (.int 5) .nil))))) (.call 7 (.cons (.lend 1) (.cons (.int 4) .nil))))) (.bl true) false [7]))
def lw4 : S := (.set (.nm 5) (.idx (.lst (.cons (.int 3) (.cons (.int 2) (.cons (.int 4) (.cons (.int 1) (.cons (.int 5) (.cons (.int 3) (.cons (.int 2) (.cons (.int 4) (.cons (.int 6) (.cons (.int 3) (.cons (.int 2) (.cons (.int 4) (.cons (.int 19) .nil)))))))))))))) (.call 7 (.cons (.lend 1) (.cons (.int 13) .nil)))))
def lw5 : S := (.set (.nm 6) (.tup .nil))
def lw6 : S := (.loop (.nm 7) (.rng1 (.var 5)) (.cons (.set (.nm 12) (.call 13 (.cons (.lend 1) (.cons (.lend 2) (.cons (.lend 3) .nil))))) (.cons (.set (.nm 6) (.bin .add (.var 6) (.tup (.cons (.tup (.cons (.mov 12) (.cons (.call 10 (.cons (.lend 4) (.cons (.lend 12) .nil))) .nil))) .nil)))) .nil)))
def lw7 : S := (.ite (.not (.call 15 (.cons (.lend 2) (.cons (.lend 6) (.cons (.tup .nil) .nil))))) (.cons (.ret (.bl false)) .nil) .nil)
def lw8 : S := (.set (.nm 8) (.call 16 (.cons (.lend 1) (.cons (.lend 6) (.cons (.lend 3) .nil)))))
def lw9 : S := (.set (.nm 9) (.call 16 (.cons (.lend 1) (.cons (.lend 8) (.cons (.lend 3) .nil)))))
def lw10 : S := (.ite (.or (.not (.call 15 (.cons (.lend 2) (.cons (.lend 8) (.cons (.call 11 (.cons (.lend 8) .nil)) .nil))))) (.not (.call 15 (.cons (.lend 2) (.cons (.lend 9) (.cons (.call 11 (.cons (.lend 9) .nil)) .nil)))))) (.cons (.ret (.bl false)) .nil) .nil)
def lw11 : S := (.set (.nm 10) (.blt .tuple (.cons (.comp (.tup (.cons (.call 13 (.cons (.lend 1) (.cons (.lend 2) (.cons (.lend 3) .nil)))) (.cons (.call 7 (.cons (.lend 1) (.cons (.lend 3) .nil))) .nil))) (.nm 7) (.rng1 (.bin .add (.int 1) (.call 7 (.cons (.lend 1) (.cons (.int 4) .nil))))) (.bl true) false [7]) .nil)))
def lw12 : S := (.ite (.or (.not (.call 15 (.cons (.lend 2) (.cons (.lend 10) (.cons (.call 11 (.cons (.lend 10) .nil)) .nil))))) (.not (.call 15 (.cons (.lend 2) (.cons (.tup .nil) (.cons (.tup .nil) .nil)))))) (.cons (.ret (.bl false)) .nil) .nil)
def lw13 : S := (.set (.nm 11) (.blt .tuple (.cons (.comp (.tup (.cons (.idx (.var 13) (.int 0)) (.cons .non .nil))) (.nm 13) (.froz 9) (.bl true) false [13]) .nil)))
def lw14 : S := (.ite (.or (.not (.call 15 (.cons (.lend 2) (.cons (.lend 11) (.cons (.tup .nil) .nil))))) (.not (.call 8 (.cons (.callk 5 0 [1, 0] (.cons (.lend 6) (.cons (.lend 2) .nil))) (.cons (.bl true) .nil))))) (.cons (.ret (.bl false)) .nil) .nil)
def lw15 : S := (.ret (.and (.call 17 (.cons (.lend 1) (.cons (.lend 2) (.cons (.lend 6) (.cons (.lend 3) .nil))))) (.call 15 (.cons (.lend 2) (.cons (.lend 6) (.cons (.tup .nil) .nil))))))
theorem lw_eq : c_law = (.cons lw0 (.cons lw1 (.cons lw2 (.cons lw3 (.cons lw4 (.cons lw5 (.cons lw6 (.cons lw7 (.cons lw8 (.cons lw9 (.cons lw10 (.cons lw11 (.cons lw12 (.cons lw13 (.cons lw14 (.cons lw15 .nil)))))))))))))))) := rfl
theorem tab {xs : List Int} {v : Int} (h0 : 0 ≤ v) (h1 : v < xs.length) : ∃ x ∈ xs, D.item (.lst (xs.map .int)) (.int v) = some (.int x) := by
  obtain ⟨k, rfl⟩ := Int.eq_ofNat_of_zero_le h0
  have hk : k < xs.length := by omega
  exact ⟨xs[k], List.getElem_mem hk, by rw [item_natL, List.getElem?_map, List.getElem?_eq_getElem hk]; rfl⟩
@[simp] theorem n_rolx (b : Bool) (i : List D) : D.isNo (.rol b i) = false := id rfl
theorem lw_0 (gl : Nat → Option D) (call : Nat → List D → R D) (kk : Bool) (X : List D) (ok : Nat → Bool) (o : ∀ i, 1 ≤ i → ok i = true) (J : D) (c : call 6 [.rol kk X] = .ok J [.rol kk X]) : evS gl call fuel lw0 ok [.rol kk X, .no, .no, .no, .no, .no, .no, .no, .no, .no, .no, .no, .no, .no] = .nx [.rol kk X, J, .no, .no, .no, .no, .no, .no, .no, .no, .no, .no, .no, .no] := by
  have o1 := o 1 (by decide)
  unfold lw0
  simp [c, o1]
theorem lw_1 (gl : Nat → Option D) (call : Nat → List D → R D) (kk : Bool) (X : List D) (ok : Nat → Bool) (o : ∀ i, 1 ≤ i → ok i = true) (m1 m2 m4 : D) (J J2 : D) (v x : Int) (nJ : J.isNo = false) (c : call 7 [J, .int 6] = .ok (.int v) [J2, .int 6]) (hx : D.item (.lst [.int 2, .int 3, .int 1, .int 4, .int 2, .int 6]) (.int v) = some (.int x)) : evS gl call fuel lw1 ok [.rol kk X, J, .no, .no, .no, .no, .no, .no, .no, .no, .no, .no, .no, .no] = .nx [.rol kk X, J2, .int x, .no, .no, .no, .no, .no, .no, .no, .no, .no, .no, .no] := by
  have os := o 2 (by decide)
  unfold lw1
  simp [c, nJ, os, hx, fits_of]
theorem lw_2 (gl : Nat → Option D) (call : Nat → List D → R D) (kk : Bool) (X : List D) (ok : Nat → Bool) (o : ∀ i, 1 ≤ i → ok i = true) (m1 m2 m4 : D) (J J2 : D) (v x : Int) (nJ : J.isNo = false) (c : call 7 [J, .int 5] = .ok (.int v) [J2, .int 5]) (hx : D.item (.lst [.int 4, .int 10, .int 3, .int 1000, .int 49000]) (.int v) = some (.int x)) : evS gl call fuel lw2 ok [.rol kk X, J, m1, .no, .no, .no, .no, .no, .no, .no, .no, .no, .no, .no] = .nx [.rol kk X, J2, m1, .int x, .no, .no, .no, .no, .no, .no, .no, .no, .no, .no] := by
  have os := o 3 (by decide)
  unfold lw2
  simp [c, nJ, os, hx, fits_of]
theorem lw_4 (gl : Nat → Option D) (call : Nat → List D → R D) (kk : Bool) (X : List D) (ok : Nat → Bool) (o : ∀ i, 1 ≤ i → ok i = true) (m1 m2 m4 : D) (J J2 : D) (v x : Int) (nJ : J.isNo = false) (c : call 7 [J, .int 13] = .ok (.int v) [J2, .int 13]) (hx : D.item (.lst [.int 3, .int 2, .int 4, .int 1, .int 5, .int 3, .int 2, .int 4, .int 6, .int 3, .int 2, .int 4, .int 19]) (.int v) = some (.int x)) : evS gl call fuel lw4 ok [.rol kk X, J, m1, m2, m4, .no, .no, .no, .no, .no, .no, .no, .no, .no] = .nx [.rol kk X, J2, m1, m2, m4, .int x, .no, .no, .no, .no, .no, .no, .no, .no] := by
  have os := o 5 (by decide)
  unfold lw4
  simp [c, nJ, os, hx, fits_of]
theorem lw_3 (gl : Nat → Option D) (call : Nat → List D → R D) (kk : Bool) (X : List D) (ok : Nat → Bool) (o : ∀ i, 1 ≤ i → ok i = true) (mm : Nat) (great : Int) (j : Jar) (hj : j.Ok) (H7 : ∀ (j : Jar) (m : Int), j.Ok → 0 < m → m < 1073741824 → ∃ (v : Int) (j' : Jar), 0 ≤ v ∧ v < m ∧ j'.Ok ∧ call 7 [j.d, .int m] = .ok (.int v) [j'.d, .int m]) (H12 : ∀ j : Jar, j.Ok → ∃ (c : List Int) (j' : Jar), (c.length = mm ∧ ∃ x ∈ c, 0 ≤ x) ∧ j'.Ok ∧ call 12 [j.d, .int (mm : Int), .int great] = .ok (tD c) [j'.d, .int (mm : Int), .int great]) :
    ∃ (cs : List (List Int)) (j' : Jar), FitsP mm cs ∧ j'.Ok ∧ evS gl call fuel lw3 ok [.rol kk X, j.d, .int (mm : Int), .int great, .no, .no, .no, .no, .no, .no, .no, .no, .no, .no] = .nx [.rol kk X, j'.d, .int (mm : Int), .int great, .lst (cs.map tD), .no, .no, .no, .no, .no, .no, .no, .no, .no] := by
  have jn : ∀ j : Jar, j.d.isNo = false := fun _ => rfl
  obtain ⟨v, j1, v1, v2, v3, v4⟩ := H7 j 4 hj (by decide) (by decide)
  obtain ⟨x, mx, hx⟩ := tab (xs := [2, 1, 3, 5]) v1 (by simpa using v2)
  have hx0 : 0 ≤ x ∧ x ≤ 5 := by simp at mx; omega
  have hx : D.item (.lst [.int 2, .int 1, .int 3, .int 5]) (.int v) = some (.int x) := hx
  have hI : evI gl call (.rng1 (.idx (.lst (.cons (.int 2) (.cons (.int 1) (.cons (.int 3) (.cons (.int 5) .nil))))) (.call 7 (.cons (.lend 1) (.cons (.int 4) .nil))))) [.rol kk X, j.d, .int (mm : Int), .int great, .no, .no, .no, .no, .no, .no, .no, .no, .no, .no] = .ok (rngL 0 x, none) [.rol kk X, j1.d, .int (mm : Int), .int great, .no, .no, .no, .no, .no, .no, .no, .no, .no, .no] := by
    simp [jn, v4, hx, rngOk_of (i := x) (by omega) (by omega), fits_of (n := x.toNat) (by omega)]
  obtain ⟨xs, ρ', e1, j', cs, hxs, hρ, q1, q2⟩ := compL_inv (turn := cturn gl call (.call 12 (.cons (.lend 1) (.cons (.lend 2) (.cons (.lend 3) .nil)))) (.nm 7) (.bl true) [7])
    (fun i acc ρ => ∃ (j' : Jar) (cs : List (List Int)), acc = cs.map tD ∧ ρ = [.rol kk X, j'.d, .int (mm : Int), .int great, .no, .no, .no, .no, .no, .no, .no, .no, .no, .no] ∧ j'.Ok ∧ FitsP mm cs) (rngL 0 x) [.rol kk X, j1.d, .int (mm : Int), .int great, .no, .no, .no, .no, .no, .no, .no, .no, .no, .no] 0 [] ⟨j1, [], rfl, rfl, v3, fun _ m => nomatch m⟩ (fun i q acc ρ hq hp => by
      obtain ⟨j1, cs, rfl, rfl, p1, p2⟩ := hp
      obtain ⟨c, j2, l1, l2, l3⟩ := H12 j1 p1
      refine ⟨some (tD c), [.rol kk X, j2.d, .int (mm : Int), .int great, .no, .no, .no, .no, .no, .no, .no, .no, .no, .no], ?_, j2, cs ++ [c], by simp, rfl, l2, fun c' m => ?_⟩
      · simp [cturn, Ev.wipe, jn, l3]
      · rcases List.mem_append.mp m with m | m
        · exact p2 c' m
        · rw [List.mem_singleton.mp m]; exact l1)
  rw [List.nil_append] at hxs
  refine ⟨cs, j', q2, q1, ?_⟩
  unfold lw3
  have ec : evM gl call (.comp (.call 12 (.cons (.lend 1) (.cons (.lend 2) (.cons (.lend 3) .nil)))) (.nm 7) (.rng1 (.idx (.lst (.cons (.int 2) (.cons (.int 1) (.cons (.int 3) (.cons (.int 5) .nil))))) (.call 7 (.cons (.lend 1) (.cons (.int 4) .nil))))) (.bl true) false [7]) .v [.rol kk X, j.d, .int (mm : Int), .int great, .no, .no, .no, .no, .no, .no, .no, .no, .no, .no] = .ok (.lst (cs.map tD)) [.rol kk X, j'.d, .int (mm : Int), .int great, .no, .no, .no, .no, .no, .no, .no, .no, .no, .no] := by
    rw [e_comp, hI]
    show (compL _ _ [.rol kk X, j1.d, .int (mm : Int), .int great, .no, .no, .no, .no, .no, .no, .no, .no, .no, .no]).bind _ = _
    rw [e1, hxs, hρ]
    rfl
  have o4 := o 4 (by decide)
  rw [u_set, ec]
  simp [o4]
def bLw : Ss := (.cons (.set (.nm 12) (.call 13 (.cons (.lend 1) (.cons (.lend 2) (.cons (.lend 3) .nil))))) (.cons (.set (.nm 6) (.bin .add (.var 6) (.tup (.cons (.tup (.cons (.mov 12) (.cons (.call 10 (.cons (.lend 4) (.cons (.lend 12) .nil))) .nil))) .nil)))) .nil))
theorem lw_6t (gl : Nat → Option D) (call : Nat → List D → R D) (kk : Bool) (X : List D) (ok : Nat → Bool) (o : ∀ i, 1 ≤ i → ok i = true) (mm : Nat) (great : Int) (cs : List (List Int)) (ct : Int) (J J1 T M q x y : D) (nJ : J.isNo = false) (iT : T.imm = true) (nT : T.isNo = false) (iM : M.imm = true) (W : List D) (hW : D.immL W = true) (hl : W.length ≤ 100)
    (c1 : call 13 [J, .int (mm : Int), .int great] = .ok T [J1, .int (mm : Int), .int great]) (c2 : call 10 [.lst (cs.map tD), T] = .ok M [.lst (cs.map tD), T]) :
    (optO (stT ok (.nm 7) q [.rol kk X, J, .int (mm : Int), .int great, .lst (cs.map tD), .int ct, .tup W, x, .no, .no, .no, .no, y, .no]) fun ρ2 => evSs gl call fuel bLw ok ρ2) = .nx [.rol kk X, J1, .int (mm : Int), .int great, .lst (cs.map tD), .int ct, .tup (W ++ [.tup [T, M]]), q, .no, .no, .no, .no, T, .no] := by
  have o6 := o 6 (by decide)
  have o7 := o 7 (by decide)
  have o12 := o 12 (by decide)
  have ad : Op2.run .add (.tup W) (.tup [.tup [T, M]]) = some (.tup (W ++ [.tup [T, M]])) := by rw [o_addT, if_pos ⟨small (by simp; omega), hW, by simp [iT, iM]⟩]
  unfold bLw
  generalize hC : D.lst (cs.map tD) = C at *
  have nC : C.isNo = false := by rw [← hC]; rfl
  have hn : needs (D.tup W) (E.var 6) false = true := needs_i hW
  simp [o6, o7, o12, nJ, iT, nT, iM, c1, c2, ad, hW, nC, hn]
theorem lw_6 (gl : Nat → Option D) (call : Nat → List D → R D) (kk : Bool) (X : List D) (ok : Nat → Bool) (o : ∀ i, 1 ≤ i → ok i = true) (mm : Nat) (great : Int) (cs : List (List Int)) (cn : Nat) (hcn : cn ≤ 19) (j : Jar) (hj : j.Ok) (H13 : ∀ j : Jar, j.Ok → ∃ (ts : List (Option Int)) (j' : Jar), ts.length = mm ∧ j'.Ok ∧ call 13 [j.d, .int (mm : Int), .int great] = .ok (tO ts) [j'.d, .int (mm : Int), .int great]) (H10 : ∀ ts : List (Option Int), ts.length = mm → call 10 [.lst (cs.map tD), tO ts] = .ok (oD (minI (times cs ts))) [.lst (cs.map tD), tO ts]) :
    ∃ (ws : List Wish) (j' : Jar) (x y : D), ws.length = cn ∧ (∀ w ∈ ws, ∃ ts : List (Option Int), ts.length = mm ∧ w = mkW cs ts) ∧ j'.Ok ∧ evS gl call fuel lw6 ok [.rol kk X, j.d, .int (mm : Int), .int great, .lst (cs.map tD), .int (cn : Int), .tup [], .no, .no, .no, .no, .no, .no, .no] = .nx [.rol kk X, j'.d, .int (mm : Int), .int great, .lst (cs.map tD), .int (cn : Int), .tup (ws.map wD), x, .no, .no, .no, .no, y, .no] := by
  obtain ⟨ρ', e1, ws, j', x, y, rfl, p1, p2, p3⟩ := forL_inv (turn := fun dd ρ' => optO (stT ok (.nm 7) dd ρ') fun ρ2 => evSs gl call fuel bLw ok ρ2)
    (fun i ρ => ∃ (ws : List Wish) (j' : Jar) (x y : D), ρ = [.rol kk X, j'.d, .int (mm : Int), .int great, .lst (cs.map tD), .int (cn : Int), .tup (ws.map wD), x, .no, .no, .no, .no, y, .no] ∧ ws.length = i ∧ (∀ w ∈ ws, ∃ ts : List (Option Int), ts.length = mm ∧ w = mkW cs ts) ∧ j'.Ok) (rngL 0 (cn : Int)) [.rol kk X, j.d, .int (mm : Int), .int great, .lst (cs.map tD), .int (cn : Int), .tup [], .no, .no, .no, .no, .no, .no, .no] 0 ⟨[], j, _, _, rfl, rfl, fun _ m => (nomatch m), hj⟩ (fun k q ρ hk hp => by
      obtain ⟨ws, j1, x, y, rfl, p1, p2, p3⟩ := hp
      have hkm : k < cn := by
        have := (List.getElem?_eq_some_iff.mp hk).1
        rw [rngL_0] at this
        simpa using this
      obtain ⟨ts, j2, t1, t2, t3⟩ := H13 j1 p3
      have c2 := H10 ts t1
      have := lw_6t gl call kk X ok o mm great cs (cn : Int) j1.d j2.d (tO ts) (oD (minI (times cs ts))) q x y rfl (by simp [tO]) rfl (oD_imm _) (ws.map wD) (immL_wD ws) (by simp; omega) t3 c2
      refine ⟨_, .inl this, ws ++ [mkW cs ts], j2, q, tO ts, ?_, by simp; omega, fun w m => ?_, t2⟩
      · rw [List.map_append]; rfl
      · rcases List.mem_append.mp m with m | m
        · exact p2 w m
        · rw [List.mem_singleton.mp m]; exact ⟨ts, t1, rfl⟩)
  have hl : (rngL 0 (cn : Int)).length = cn := by rw [rngL_0]; simp
  rw [hl, Nat.zero_add] at p1
  refine ⟨ws, j', x, y, p1, p2, p3, ?_⟩
  have hI : evI gl call (.rng1 (.var 5)) [.rol kk X, j.d, .int (mm : Int), .int great, .lst (cs.map tD), .int (cn : Int), .tup [], .no, .no, .no, .no, .no, .no, .no] = .ok (rngL 0 (cn : Int), none) [.rol kk X, j.d, .int (mm : Int), .int great, .lst (cs.map tD), .int (cn : Int), .tup [], .no, .no, .no, .no, .no, .no, .no] := by
    simp [rngOk_of (i := (cn : Int)) (by omega) (by omega), fits_of (n := cn) (by omega)]
  unfold lw6
  rw [u_loop, hI]
  simp only [e_o_ok, okBut_none]
  unfold bLw at e1
  rw [e1, thaw_nx]
@[simp] theorem x_callk (gl : Nat → Option D) (call : Nat → List D → R D) (f n : Nat) (ks : List Nat) (es : Es) (m : Md) (ρ : Env) : evM gl call (.callk f n ks es) m ρ = m.tr ((evAs gl call es ρ).bind fun as ρ1 => callR call f (reord n ks as) ρ1) := id rfl
@[simp] theorem l_callk (f n : Nat) (ks : List Nat) (es : Es) : E.lent? (.callk f n ks es) = none := id rfl
@[simp] theorem reord2 (a b : Option Nat × D) : reord 0 [1, 0] [a, b] = [b, a] := by rfl
@[simp] theorem needs_int (i : Int) (e : E) (q : Bool) : needs (.int i) e q = true := needs_i rfl
theorem lw_7 (gl : Nat → Option D) (call : Nat → List D → R D) (kk : Bool) (X : List D) (ok : Nat → Bool) (o : ∀ i, 1 ≤ i → ok i = true) (mm : Nat) (great : Int) (J J1 J2 C4 C5 x7 x12 : D) (nJ : J.isNo = false) (nJ1 : J1.isNo = false) (W0 W1 W2 B1 B2 : List D) (i0 : D.immL W0 = true) (i1 : D.immL W1 = true) (i2 : D.immL W2 = true) (k1 : D.immL B1 = true) (k2 : D.immL B2 = true)
    (c1 : Asks call mm W0 []) (c2 : call 16 [J, .tup W0, .int great] = .ok (.tup W1) [J1, .tup W0, .int great]) (c3 : call 16 [J1, .tup W1, .int great] = .ok (.tup W2) [J2, .tup W1, .int great])
    (c4 : call 11 [.tup W1] = .ok (.tup B1) [.tup W1]) (c5 : call 11 [.tup W2] = .ok (.tup B2) [.tup W2]) (c6 : Asks call mm W1 B1) (c7 : Asks call mm W2 B2) (rest : Ss) :
    evSs gl call fuel (.cons lw7 (.cons lw8 (.cons lw9 (.cons lw10 rest)))) ok [.rol kk X, J, .int (mm : Int), .int great, C4, C5, .tup W0, x7, .no, .no, .no, .no, x12, .no] = evSs gl call fuel rest ok [.rol kk X, J2, .int (mm : Int), .int great, C4, C5, .tup W0, x7, .tup W1, .tup W2, .no, .no, x12, .no] := by
  have o8 := o 8 (by decide)
  have o9 := o 9 (by decide)
  unfold Asks at c1 c6 c7
  unfold lw7 lw8 lw9 lw10
  simp [nJ, nJ1, i0, i1, i2, k1, k2, c1, c2, c3, c4, c5, c6, c7, o8, o9]
theorem lw_11 (gl : Nat → Option D) (call : Nat → List D → R D) (kk : Bool) (X : List D) (ok : Nat → Bool) (o : ∀ i, 1 ≤ i → ok i = true) (mm : Nat) (great : Int) (g0 : 0 < great) (g1 : great < 1073741824) (j : Jar) (hj : j.Ok) (C4 C5 x7 x12 W1 W2 : D) (W0 : List D) (H7 : ∀ (j : Jar) (m : Int), j.Ok → 0 < m → m < 1073741824 → ∃ (v : Int) (j' : Jar), 0 ≤ v ∧ v < m ∧ j'.Ok ∧ call 7 [j.d, .int m] = .ok (.int v) [j'.d, .int m]) (H13 : ∀ j : Jar, j.Ok → ∃ (ts : List (Option Int)) (j' : Jar), ts.length = mm ∧ j'.Ok ∧ call 13 [j.d, .int (mm : Int), .int great] = .ok (tO ts) [j'.d, .int (mm : Int), .int great]) :
    ∃ (fs : List Wish) (j' : Jar), fs.length ≤ 4 ∧ (∀ w ∈ fs, w.1.length = mm) ∧ j'.Ok ∧ evS gl call fuel lw11 ok [.rol kk X, j.d, .int (mm : Int), .int great, C4, C5, .tup W0, x7, W1, W2, .no, .no, x12, .no] = .nx [.rol kk X, j'.d, .int (mm : Int), .int great, C4, C5, .tup W0, .no, W1, W2, .tup (fs.map wD), .no, x12, .no] := by
  have jn : ∀ j : Jar, j.d.isNo = false := fun _ => rfl
  obtain ⟨x, j1, v1, v2, v3, v4⟩ := H7 j 4 hj (by decide) (by decide)
  have hI : evI gl call (.rng1 (.bin .add (.int 1) (.call 7 (.cons (.lend 1) (.cons (.int 4) .nil))))) [.rol kk X, j.d, .int (mm : Int), .int great, C4, C5, .tup W0, x7, W1, W2, .no, .no, x12, .no] = .ok (rngL 0 (1 + x), none) [.rol kk X, j1.d, .int (mm : Int), .int great, C4, C5, .tup W0, x7, W1, W2, .no, .no, x12, .no] := by
    simp [jn, v4, rngOk_of (i := 1 + x) (by omega) (by omega), fits_of (n := (1 + x).toNat) (by omega)]
  obtain ⟨xs, ρ', e1, j', fs, hxs, hρ, q1, q2, q3⟩ := compL_inv (turn := cturn gl call (.tup (.cons (.call 13 (.cons (.lend 1) (.cons (.lend 2) (.cons (.lend 3) .nil)))) (.cons (.call 7 (.cons (.lend 1) (.cons (.lend 3) .nil))) .nil))) (.nm 7) (.bl true) [7])
    (fun i acc ρ => ∃ (j' : Jar) (fs : List Wish), acc = fs.map wD ∧ ρ = [.rol kk X, j'.d, .int (mm : Int), .int great, C4, C5, .tup W0, .no, W1, W2, .no, .no, x12, .no] ∧ j'.Ok ∧ (∀ w ∈ fs, w.1.length = mm) ∧ fs.length = i) (rngL 0 (1 + x)) [.rol kk X, j1.d, .int (mm : Int), .int great, C4, C5, .tup W0, .no, W1, W2, .no, .no, x12, .no] 0 [] ⟨j1, [], rfl, rfl, v3, (fun _ m => nomatch m), rfl⟩ (fun i q acc ρ hq hp => by
      obtain ⟨j1, fs, rfl, rfl, p1, p2, p3⟩ := hp
      obtain ⟨ts, j2, l1, l2, l3⟩ := H13 j1 p1
      obtain ⟨p, j3, b1, b2, b3, b4⟩ := H7 j2 great l2 g0 g1
      refine ⟨some (.tup [tO ts, .int p]), [.rol kk X, j3.d, .int (mm : Int), .int great, C4, C5, .tup W0, .no, W1, W2, .no, .no, x12, .no], ?_, j3, fs ++ [(ts, some p)], by simp [wD, oD], rfl, b3, fun c' m => ?_, by simp [p3]⟩
      · simp [cturn, Ev.wipe, jn, l3, b4]
      · rcases List.mem_append.mp m with m | m
        · exact p2 c' m
        · rw [List.mem_singleton.mp m]; exact l1)
  rw [List.nil_append] at hxs
  have hl : (rngL 0 (1 + x)).length ≤ 4 := by unfold rngL; simp; omega
  refine ⟨fs, j', by omega, q2, q1, ?_⟩
  have ec : evM gl call (.comp (.tup (.cons (.call 13 (.cons (.lend 1) (.cons (.lend 2) (.cons (.lend 3) .nil)))) (.cons (.call 7 (.cons (.lend 1) (.cons (.lend 3) .nil))) .nil))) (.nm 7) (.rng1 (.bin .add (.int 1) (.call 7 (.cons (.lend 1) (.cons (.int 4) .nil))))) (.bl true) false [7]) .v [.rol kk X, j.d, .int (mm : Int), .int great, C4, C5, .tup W0, x7, W1, W2, .no, .no, x12, .no] = .ok (.lst (fs.map wD)) [.rol kk X, j'.d, .int (mm : Int), .int great, C4, C5, .tup W0, .no, W1, W2, .no, .no, x12, .no] := by
    rw [e_comp, hI]
    show (compL _ _ [.rol kk X, j1.d, .int (mm : Int), .int great, C4, C5, .tup W0, .no, W1, W2, .no, .no, x12, .no]).bind _ = _
    rw [e1, hxs, hρ]
    rfl
  unfold lw11
  have o10 := o 10 (by decide)
  have hF := immL_wD fs
  rw [u_set, x_blt, x_bsc, b_comp, ec]
  generalize fs.map wD = F at *
  simp [o10, hF]
theorem lw_12 (gl : Nat → Option D) (call : Nat → List D → R D) (kk : Bool) (X : List D) (ok : Nat → Bool) (o : ∀ i, 1 ≤ i → ok i = true) (mm : Nat) (great : Int) (J C4 C5 x12 W1 : D) (W0 W2 F BF : List D) (iF : D.immL F = true) (iB : D.immL BF = true) (c1 : call 11 [.tup F] = .ok (.tup BF) [.tup F]) (c2 : Asks call mm F BF) (c3 : Asks call mm [] []) (rest : Ss) :
    evSs gl call fuel (.cons lw12 rest) ok [.rol kk X, J, .int (mm : Int), .int great, C4, C5, .tup W0, .no, W1, .tup W2, .tup F, .no, x12, .no] = evSs gl call fuel rest ok [.rol kk X, J, .int (mm : Int), .int great, C4, C5, .tup W0, .no, W1, .tup W2, .tup F, .no, x12, .no] := by
  unfold Asks at c2 c3
  unfold lw12
  simp [iF, iB, c1, c2, c3]
theorem lw_13 (gl : Nat → Option D) (call : Nat → List D → R D) (kk : Bool) (X : List D) (ok : Nat → Bool) (o : ∀ i, 1 ≤ i → ok i = true) (mm : Nat) (great : Int) (J C4 C5 x12 W1 : D) (W0 F : List D) (ws : List Wish) :
    evS gl call fuel lw13 ok [.rol kk X, J, .int (mm : Int), .int great, C4, C5, .tup W0, .no, W1, .tup (ws.map wD), .tup F, .no, x12, .no] = .nx [.rol kk X, J, .int (mm : Int), .int great, C4, C5, .tup W0, .no, W1, .tup (ws.map wD), .tup F, .tup (ws.map fun w => wD (w.1, none)), x12, .no] := by
  have o11 := o 11 (by decide)
  have him := immL_wD ws
  have ec : evM gl call (.comp (.tup (.cons (.idx (.var 13) (.int 0)) (.cons .non .nil))) (.nm 13) (.froz 9) (.bl true) false [13]) .v [.rol kk X, J, .int (mm : Int), .int great, C4, C5, .tup W0, .no, W1, .tup (ws.map wD), .tup F, .no, x12, .no] = .ok (.lst ((ws.map fun w => wD (w.1, none)))) [.rol kk X, J, .int (mm : Int), .int great, C4, C5, .tup W0, .no, W1, .tup (ws.map wD), .tup F, .no, x12, .no] := by
    refine (comp_ok (fz := none) (ρ1 := [.rol kk X, J, .int (mm : Int), .int great, C4, C5, .tup W0, .no, W1, .tup (ws.map wD), .tup F, .no, x12, .no]) (ds := ws.map wD) (fun x => match x with
      | .tup [t, _] => some (.tup [t, .non])
      | _ => none) ?_ ?_ rfl).trans ?_
    · simp [items, D.still, him]
    · intro x hx
      obtain ⟨w, _, rfl⟩ := List.mem_map.mp hx
      have i0 : D.item (wD w) (.int 0) = some (tO w.1) := rfl
      have ii := wD_imm w
      have it : (tO w.1).imm = true := by simp [tO]
      have nw : (wD w).isNo = false := rfl
      have em : (match wD w with | .tup [t, _] => some (D.tup [t, .non]) | _ => none) = some (.tup [tO w.1, .non]) := rfl
      rw [em]
      generalize wD w = Y at *
      generalize tO w.1 = T at *
      simp [cturn, Ev.wipe, i0, ii, it, nw]
    · congr 2
      rw [List.filterMap_map]
      clear him
      induction ws with
      | nil => rfl
      | cons t L ih => simp [wD, oD] at ih ⊢; exact ih
  have hN : D.immL (ws.map fun w => wD (w.1, none)) = true := immL_of fun x m => by obtain ⟨w, _, rfl⟩ := List.mem_map.mp m; exact wD_imm _
  unfold lw13
  rw [u_set, x_blt, x_bsc, b_comp, ec]
  generalize (ws.map fun w => wD (w.1, none)) = N at *
  simp [o11, hN]
theorem lw_14 (gl : Nat → Option D) (call : Nat → List D → R D) (kk : Bool) (X : List D) (ok : Nat → Bool) (o : ∀ i, 1 ≤ i → ok i = true) (mm : Nat) (great : Int) (J J2 C4 C5 x12 W1 : D) (W0 W2 F N : List D) (nJ : J.isNo = false) (iN : D.immL N = true) (i0 : D.immL W0 = true) (c1 : Asks call mm N []) (c2 : Asks call mm W0 [])
    (c3 : call 5 [.int (mm : Int), .tup W0] = .ok (.bl true) [.int (mm : Int), .tup W0]) (c4 : call 8 [.bl true, .bl true] = .ok (.bl true) [.bl true, .bl true])
    (c5 : call 17 [J, .int (mm : Int), .tup W0, .int great] = .ok (.bl true) [J2, .int (mm : Int), .tup W0, .int great]) :
    evSs gl call fuel (.cons lw14 (.cons lw15 .nil)) ok [.rol kk X, J, .int (mm : Int), .int great, C4, C5, .tup W0, .no, W1, .tup W2, .tup F, .tup N, x12, .no] = .rt (.bl true) [.rol kk X, J2, .int (mm : Int), .int great, C4, C5, .tup W0, .no, W1, .tup W2, .tup F, .tup N, x12, .no] := by
  unfold Asks at c1 c2
  unfold lw14 lw15
  simp [nJ, iN, i0, c1, c2, c3, c4, c5]
end K
end

section
set_option maxRecDepth 100000
set_option linter.all false
namespace K
open Ev
theorem law : ∀ (k : Bool) (ns : List Int), ns.length ≤ 63 → ∃ ds, Ev.run pg fuel 60 18 [.rol k (ns.map .int)] = .ok (.bl true) ds := by
  intro k ns hns
  show ∃ ds, Ev.run pg fuel (59 + 1) 18 [.rol k (ns.map .int)] = .ok (.bl true) ds
  have H7 : ∀ (j : Jar) (m : Int), j.Ok → 0 < m → m < 1073741824 → ∃ (v : Int) (j' : Jar), 0 ≤ v ∧ v < m ∧ j'.Ok ∧ run pg fuel 59 7 [j.d, .int m] = .ok (.int v) [j'.d, .int m] := fun j m hj h0 h1 => r_dip 58 j hj m h0 h1
  obtain ⟨j0, k0, e0⟩ := r_jar 58 k ns hns
  have o : ∀ i, 1 ≤ i → okP [.rol k (ns.map .int)] i = true := fun i hi => by unfold okP; rw [List.getElem?_eq_none (by simpa using hi)]
  rw [run_eq (df := d_law) rfl rfl (by decide)]
  rw [show ([.rol k (ns.map .int)] ++ List.replicate (d_law.ns - d_law.ps) D.no) = [.rol k (ns.map .int), .no, .no, .no, .no, .no, .no, .no, .no, .no, .no, .no, .no, .no] from rfl, show d_law.body = c_law from rfl, lw_eq]
  rw [e_cons, lw_0 _ _ k (ns.map .int) _ o j0.d e0, e_nx]
  obtain ⟨v1, j1, a1, a2, a3, a4⟩ := H7 j0 6 k0 (by decide) (by decide)
  obtain ⟨x1, m1, hx1⟩ := tab (xs := [2, 3, 1, 4, 2, 6]) a1 (by simpa using a2)
  rw [e_cons, lw_1 _ _ k (ns.map .int) _ o .no .no .no j0.d j1.d v1 x1 rfl a4 hx1, e_nx]
  obtain ⟨mm, rfl⟩ : ∃ mm : Nat, x1 = (mm : Int) := ⟨x1.toNat, by simp at m1; omega⟩
  have lo : 1 ≤ mm := by simp at m1; omega
  have hi : mm ≤ 100 := by simp at m1; omega
  obtain ⟨v2, j2, b1, b2, b3, b4⟩ := H7 j1 5 a3 (by decide) (by decide)
  obtain ⟨great, m2, hx2⟩ := tab (xs := [4, 10, 3, 1000, 49000]) b1 (by simpa using b2)
  have g0 : 0 < great := by simp at m2; omega
  have g1 : great < 1073741824 := by simp at m2; omega
  rw [e_cons, lw_2 _ _ k (ns.map .int) _ o (.int (mm : Int)) .no .no j1.d j2.d v2 great rfl b4 hx2, e_nx]
  obtain ⟨cs, j3, fcs, k3, e3⟩ := lw_3 (fun g => pg.glb[g]?) (run pg fuel 59) k (ns.map .int) _ o mm great j2 b3 H7 (fun j hj => by obtain ⟨c, j', l1, l2, l3, l4⟩ := r_cause 57 j hj mm lo hi great g0 g1; exact ⟨c, j', ⟨l1, l2⟩, l3, l4⟩)
  rw [e_cons, e3, e_nx]
  obtain ⟨v4, j4, c1, c2, c3, c4⟩ := H7 j3 13 k3 (by decide) (by decide)
  obtain ⟨ct, m4, hx4⟩ := tab (xs := [3, 2, 4, 1, 5, 3, 2, 4, 6, 3, 2, 4, 19]) c1 (by simpa using c2)
  rw [e_cons, lw_4 _ _ k (ns.map .int) _ o (.int (mm : Int)) (.int great) (.lst (cs.map tD)) j3.d j4.d v4 ct rfl c4 hx4, e_nx]
  obtain ⟨cn, rfl⟩ : ∃ cn : Nat, ct = (cn : Int) := ⟨ct.toNat, by simp at m4; omega⟩
  have hcn : cn ≤ 19 := by simp at m4; omega
  have hcn0 : 0 < cn := by simp at m4; omega
  have s5 : evS (fun g => pg.glb[g]?) (run pg fuel 59) fuel lw5 (okP [.rol k (ns.map .int)]) [.rol k (ns.map .int), j4.d, .int (mm : Int), .int great, .lst (cs.map tD), .int (cn : Int), .no, .no, .no, .no, .no, .no, .no, .no] = .nx [.rol k (ns.map .int), j4.d, .int (mm : Int), .int great, .lst (cs.map tD), .int (cn : Int), .tup [], .no, .no, .no, .no, .no, .no, .no] := by
    unfold lw5; simp [o 6 (by decide)]
  rw [e_cons, s5, e_nx]
  have fit : Fits mm cs := fun c m => (fcs c m).1
  have H13 : ∀ j : Jar, j.Ok → ∃ (ts : List (Option Int)) (j' : Jar), ts.length = mm ∧ j'.Ok ∧ run pg fuel 59 13 [j.d, .int (mm : Int), .int great] = .ok (tO ts) [j'.d, .int (mm : Int), .int great] := fun j hj => by
    obtain ⟨ts, j', t1, _, t3, t4⟩ := r_times 57 j hj mm hi great g0 g1
    exact ⟨ts, j', t1, t3, t4⟩
  obtain ⟨ws, j6, x6, y6, wl, hw, k6, e6⟩ := lw_6 (fun g => pg.glb[g]?) (run pg fuel 59) k (ns.map .int) _ o mm great cs cn hcn j4 c3 H13 (fun ts ht => r_time 57 cs ts (by rw [ht]; exact fit) (by omega))
  rw [e_cons, e6, e_nx]
  have cl : Clear ws := made_clear fcs ws hw
  have gw : Good mm ws := ⟨fun w m => by obtain ⟨ts, ht, rfl⟩ := hw w m; exact ht, lo, hi, by omega⟩
  have asked : ∀ us, Good mm us → Asks (run pg fuel 59) mm (us.map wD) ((bars us).map pD) := fun us g => r_asked 53 (mm : Int) mm us g
  have A0 := asked ws gw
  rw [cl.bars] at A0
  obtain ⟨w1, j7, l1, gw1, k7, e7⟩ := r_changed 57 mm ws gw (by omega) j6 k6 great g0 g1
  obtain ⟨w2, j8, l2, gw2, k8, e8⟩ := r_changed 57 mm w1 gw1 (by omega) j7 k7 great g0 g1
  rw [lw_7 (fun g => pg.glb[g]?) (run pg fuel 59) k (ns.map .int) _ o mm great j6.d j7.d j8.d (.lst (cs.map tD)) (.int (cn : Int)) x6 y6 rfl rfl (ws.map wD) (w1.map wD) (w2.map wD) ((bars w1).map pD) ((bars w2).map pD) (immL_wD _) (immL_wD _) (immL_wD _) (immL_pD _) (immL_pD _)
    A0 e7 e8 (r_bars 57 mm w1 gw1) (r_bars 57 mm w2 gw2) (asked w1 gw1) (asked w2 gw2)]
  obtain ⟨fs, j9, fl, hf, k9, e9⟩ := lw_11 (fun g => pg.glb[g]?) (run pg fuel 59) k (ns.map .int) _ o mm great g0 g1 j8 k8 (.lst (cs.map tD)) (.int (cn : Int)) x6 y6 (.tup (w1.map wD)) (.tup (w2.map wD)) (ws.map wD) H7 H13
  have gf : Good mm fs := ⟨hf, lo, hi, by omega⟩
  have A00 := asked [] ⟨fun _ m => (nomatch m), lo, hi, by simp⟩
  rw [e_cons, e9, e_nx]
  rw [lw_12 (fun g => pg.glb[g]?) (run pg fuel 59) k (ns.map .int) _ o mm great j9.d (.lst (cs.map tD)) (.int (cn : Int)) y6 (.tup (w1.map wD)) (ws.map wD) (w2.map wD) (fs.map wD) ((bars fs).map pD) (immL_wD _) (immL_pD _) (r_bars 57 mm fs gf) (asked fs gf) A00]
  rw [e_cons, lw_13 (fun g => pg.glb[g]?) (run pg fuel 59) k (ns.map .int) _ o mm great j9.d (.lst (cs.map tD)) (.int (cn : Int)) y6 (.tup (w1.map wD)) (ws.map wD) (fs.map wD) w2, e_nx]
  have gn : Good mm ((w2.map (·.1)).map fun ts => ((ts, none) : Wish)) := ⟨fun w m => by
    obtain ⟨ts, mt, rfl⟩ := List.mem_map.mp m
    obtain ⟨u, mu, rfl⟩ := List.mem_map.mp mt
    exact gw2.ok u mu, lo, hi, by simp; exact gw2.sz⟩
  have An := asked _ gn
  rw [nevers_bars] at An
  have hN : ((w2.map (·.1)).map fun ts => ((ts, none) : Wish)).map wD = w2.map fun w => wD (w.1, none) := by rw [List.map_map, List.map_map]; rfl
  rw [hN] at An
  have hNi : D.immL (w2.map fun w => wD (w.1, none)) = true := by rw [← hN]; exact immL_wD _
  have c5 := r_can_meet 55 (.int (mm : Int)) rfl rfl mm ws gw
  rw [cl.bars] at c5
  obtain ⟨j10, e10⟩ := r_by_hand 52 mm ws gw (by omega) cl j9 k9 great g0 g1 (fun us g => r_asked 52 (mm : Int) mm us g)
  have c5' : run pg fuel 59 5 [.int (mm : Int), .tup (ws.map wD)] = .ok (.bl true) [.int (mm : Int), .tup (ws.map wD)] := c5
  have c8 : run pg fuel 59 8 [.bl true, .bl true] = .ok (.bl true) [.bl true, .bl true] := r_same0 58 (.bl true) (.inr (.inl ⟨true, rfl⟩))
  have c17 : run pg fuel 59 17 [j9.d, .int (mm : Int), .tup (ws.map wD), .int great] = .ok (.bl true) [j10.d, .int (mm : Int), .tup (ws.map wD), .int great] := e10
  have A0' : Asks (run pg fuel 59) mm (ws.map wD) [] := A0
  have An' : Asks (run pg fuel 59) mm (w2.map fun w => wD (w.1, none)) [] := An
  have key := lw_14 (fun g => pg.glb[g]?) (run pg fuel 59) k (ns.map .int) (okP [D.rol k (List.map D.int ns)]) o mm great j9.d j10.d (.lst (cs.map tD)) (.int (cn : Int)) y6 (.tup (w1.map wD)) (ws.map wD) (w2.map wD) (fs.map wD) (w2.map fun w => wD (w.1, none)) (by exact rfl) (by exact hNi) (by exact immL_wD _) (by exact An') (by exact A0') (by exact c5') (by exact c8) (by exact c17)
  rw [key]
  exact ⟨_, rfl⟩
end K
end

set_option Elab.async false
set_option linter.all false
open PySem PySem.W PyProof.Rows
set_option maxHeartbeats 0 in
set_option maxRecDepth 100000 in
open_top head for PySem.Challenge.rw_firstandlast_k20_bars
set_option maxRecDepth 100000 in
set_option maxHeartbeats 0 in
theorem PySem.Challenge.cw_firstandlast_k20_bars_holds : PySem.Challenge.rw_firstandlast_k20_bars.Holds := by
  refine head ?_
  refine Ev.law_walk (x := (PySem.Str.ofString "script")) K.T K.fuel 60 18 63 rfl (by decide) rfl ⟨rfl, by decide, by decide⟩ rfl rfl (fun w h Y => PySem.W.kIn_of Y) ?F K.law
  case F =>
    intro w mg fa h KX G hmg
    refine Ev.facts_mk KX G ?df K.bf K.kf K.sf K.cf ?tops ?gls
    case df =>
      refine' Ev.each_0 (Ev.each_cons ?d0 (Ev.each_cons ?d1 (Ev.each_cons ?d2 (Ev.each_cons ?d3 (Ev.each_cons ?d4 (Ev.each_cons ?d5 (Ev.each_cons ?d6 (Ev.each_cons ?d7 (Ev.each_cons ?d8 (Ev.each_cons ?d9 (Ev.each_cons ?d10 (Ev.each_cons ?d11 (Ev.each_cons ?d12 (Ev.each_cons ?d13 (Ev.each_cons ?d14 (Ev.each_cons ?d15 (Ev.each_cons ?d16 (Ev.each_cons ?d17 (Ev.each_cons ?d18 Ev.each_nil)))))))))))))))))))
      case d0 =>
        refine' Ev.DefFact.mk ?a ?l ?c ?k
        (case a => k_is)
        (case l => k_is)
        (case c => k_is)
        (case k => k_is)
      case d1 =>
        refine' Ev.DefFact.mk ?a ?l ?c ?k
        (case a => k_is)
        (case l => k_is)
        (case c => k_is)
        (case k => k_is)
      case d2 =>
        refine' Ev.DefFact.mk ?a ?l ?c ?k
        (case a => k_is)
        (case l => k_is)
        (case c => k_is)
        (case k => k_is)
      case d3 =>
        refine' Ev.DefFact.mk ?a ?l ?c ?k
        (case a => k_is)
        (case l => k_is)
        (case c => k_is)
        (case k => k_is)
      case d4 =>
        refine' Ev.DefFact.mk ?a ?l ?c ?k
        (case a => k_is)
        (case l => k_is)
        (case c => k_is)
        (case k => k_is)
      case d5 =>
        refine' Ev.DefFact.mk ?a ?l ?c ?k
        (case a => k_is)
        (case l => k_is)
        (case c => k_is)
        (case k => k_is)
      case d6 =>
        refine' Ev.DefFact.mk ?a ?l ?c ?k
        (case a => k_is)
        (case l => k_is)
        (case c => k_is)
        (case k => k_is)
      case d7 =>
        refine' Ev.DefFact.mk ?a ?l ?c ?k
        (case a => k_is)
        (case l => k_is)
        (case c => k_is)
        (case k => k_is)
      case d8 =>
        refine' Ev.DefFact.mk ?a ?l ?c ?k
        (case a => k_is)
        (case l => k_is)
        (case c => k_is)
        (case k => k_is)
      case d9 =>
        refine' Ev.DefFact.mk ?a ?l ?c ?k
        (case a => k_is)
        (case l => k_is)
        (case c => k_is)
        (case k => k_is)
      case d10 =>
        refine' Ev.DefFact.mk ?a ?l ?c ?k
        (case a => k_is)
        (case l => k_is)
        (case c => k_is)
        (case k => k_is)
      case d11 =>
        refine' Ev.DefFact.mk ?a ?l ?c ?k
        (case a => k_is)
        (case l => k_is)
        (case c => k_is)
        (case k => k_is)
      case d12 =>
        refine' Ev.DefFact.mk ?a ?l ?c ?k
        (case a => k_is)
        (case l => k_is)
        (case c => k_is)
        (case k => k_is)
      case d13 =>
        refine' Ev.DefFact.mk ?a ?l ?c ?k
        (case a => k_is)
        (case l => k_is)
        (case c => k_is)
        (case k => k_is)
      case d14 =>
        refine' Ev.DefFact.mk ?a ?l ?c ?k
        (case a => k_is)
        (case l => k_is)
        (case c => k_is)
        (case k => k_is)
      case d15 =>
        refine' Ev.DefFact.mk ?a ?l ?c ?k
        (case a => k_is)
        (case l => k_is)
        (case c => k_is)
        (case k => k_is)
      case d16 =>
        refine' Ev.DefFact.mk ?a ?l ?c ?k
        (case a => k_is)
        (case l => k_is)
        (case c => k_is)
        (case k => k_is)
      case d17 =>
        refine' Ev.DefFact.mk ?a ?l ?c ?k
        (case a => k_is)
        (case l => k_is)
        (case c => k_is)
        (case k => k_is)
      case d18 =>
        refine' Ev.DefFact.mk ?a ?l ?c ?k
        (case a => k_is)
        (case l => k_is)
        (case c => k_is)
        (case k => k_is)
    case tops =>
      refine' (List.forall_mem_cons.mpr ⟨?t0, (List.forall_mem_cons.mpr ⟨?t1, (List.forall_mem_cons.mpr ⟨?t2, (List.forall_mem_cons.mpr ⟨?t3, (List.forall_mem_cons.mpr ⟨?t4, (List.forall_mem_cons.mpr ⟨?t5, (List.forall_mem_cons.mpr ⟨?t6, (List.forall_mem_cons.mpr ⟨?t7, (List.forall_mem_cons.mpr ⟨?t8, (fun _ h => absurd h List.not_mem_nil)⟩)⟩)⟩)⟩)⟩)⟩)⟩)⟩)⟩)
      case t0 => k_is
      case t1 => k_is
      case t2 => k_is
      case t3 => k_is
      case t4 => k_is
      case t5 => k_is
      case t6 => k_is
      case t7 => k_is
      case t8 => k_is
    case gls =>
      refine' Ev.each_0 Ev.each_nil

