import PyProof.Rows.All
import Wide.All
import OpenK.AllK
import Wide.FinOn
import PySem.Str
import HandS.ForMost
import HandS.Exc
import HandS.ExcOwn
import HandS.WordsExc
import HandS.IsInst
import HandS.TupMul
import HandS.TupAny
import HandS.Flow
import PyProof.StrOps2
import HandS.Wide
import HandS.Deep
import HandS.Style
import KE.DataMinMax
import HandS.Comp
import HandS.TupSets
import KE.SortData
import HandS.Ends
import PySem.Challenge.RW_firstandlast_k19_own_causes
section
set_option linter.all false
set_option maxRecDepth 100000
/-! EvA: deep data, compact code, a pure evaluator (values with unique owners). -/
namespace Ev
open PySem (Str)

/-! ### data -/
inductive D where
  | no | non | bl (b : Bool) | int (i : Int) | str (s : Str)
  | tup (xs : List D) | lst (xs : List D)
  /-- a list that stands still: frozen while it is walked (false); for ever: an object of the module, one that nobody changes (true) -/
  | rol (k : Bool) (xs : List D)
  | dct (ks : List (Sum Int Str)) (vs : List D)
  deriving Inhabited

mutual
def D.imm : D → Bool
  | .non | .bl _ | .int _ | .str _ => true
  | .tup xs => D.immL xs
  | .rol k _ => k
  | .no | .lst _ | .dct _ _ => false
def D.immL : List D → Bool
  | [] => true
  | x :: xs => x.imm && D.immL xs
end
def D.isNo : D → Bool
  | .no => true
  | _ => false
def D.isNon : D → Bool
  | .non => true
  | _ => false
mutual
/-- ==, True being 1 -/
def D.eqv : D → D → Bool
  | .non, .non => true
  | .bl a, .bl b => a == b
  | .bl a, .int j => (if a then 1 else 0) == j
  | .int i, .bl b => i == (if b then 1 else 0)
  | .int i, .int j => i == j
  | .str x, .str y => x == y
  | .tup xs, .tup ys => D.eqvL xs ys
  | .lst xs, .lst ys => D.eqvL xs ys
  | .rol _ xs, .rol _ ys => D.eqvL xs ys
  | .lst xs, .rol _ ys => D.eqvL xs ys
  | .rol _ xs, .lst ys => D.eqvL xs ys
  | _, _ => false
def D.eqvL : List D → List D → Bool
  | [], [] => true
  | x :: xs, y :: ys => x.eqv y && D.eqvL xs ys
  | _, _ => false
end
mutual
/-- may == look at it -/
def D.cmpb : D → Bool
  | .non | .bl _ | .int _ | .str _ => true
  | .tup xs | .lst xs | .rol _ xs => D.cmpbL xs
  | .no | .dct _ _ => false
def D.cmpbL : List D → Bool
  | [] => true
  | x :: xs => x.cmpb && D.cmpbL xs
end
mutual
def D.dep : D → Nat
  | .tup xs | .lst xs | .rol _ xs => D.depL xs + 1
  | .no | .non | .bl _ | .int _ | .str _ | .dct _ _ => 0
def D.depL : List D → Nat
  | [] => 0
  | x :: xs => max x.dep (D.depL xs)
end

/-- what is left at exit, what was raised -/
structure Ex where
  c : Nat
  as : List D

abbrev Env := List D
inductive R (α : Type) where
  | ok (a : α) (ρ : Env)
  | rz (x : Ex) (ρ : Env)
  | st
  deriving Inhabited
@[inline] def R.bind {α β : Type} (r : R α) (f : α → Env → R β) : R β :=
  match r with
  | .ok a ρ => f a ρ
  | .rz x ρ => .rz x ρ
  | .st => .st

/-! ### code -/
inductive Op2 where
  | add | sub | mul | fdiv | mod | pow | shl | shr | band | bor | bxor
  deriving DecidableEq
inductive Cmp where
  | eq | ne | lt | le | gt | ge | is | isn | mem | nmem
  deriving DecidableEq
/-- built-in types of isinstance -/
inductive Ty where
  | int | bool | str | tuple | list
  deriving DecidableEq
inductive Blt where
  | len | int | abs | max | min | sum | tuple | list | str | sorted | bool | sset | lset
  deriving DecidableEq
inductive Mth where
  | append | extend | pop | popAt | insert | remove | reverse | index | count
  deriving DecidableEq
mutual
inductive E where
  | var (i : Nat) | mov (i : Nat) | lend (i : Nat)
  | non | bl (b : Bool) | int (i : Int) | str (s : Str)
  | glb (g : Nat)
  | bin (o : Op2) (a b : E) | neg (a : E)
  | cmp (o : Cmp) (a b : E) | chn (o p : Cmp) (a b c : E)
  | not (a : E) | and (a b : E) | or (a b : E)
  | ite (c a b : E)
  | tup (es : Es) | lst (es : Es)
  | idx (a i : E) | slc (a lo hi : E) | part
  | call (f : Nat) (es : Es) | callk (f n : Nat) (ks : List Nat) (es : Es)
  | blt (b : Blt) (es : Es)
  | isi (a : E) (t : Ty) | isis (a : E) (ts : List Ty)
  | comp (elt : E) (tg : Tg) (it : It) (cond : E) (has : Bool) (own : List Nat)
  | mth (m : Mth) (p : P) (es : Es)
  /-- a list of its own that nobody changes any more -/
  | frz (e : E)
  /-- sorted(set(e)) -/
  | srt (e : E)
inductive Es where
  | nil | cons (e : E) (es : Es)
/-- what a loop walks -/
inductive It where
  | rng1 (a : E) | rng2 (a b : E)
  | froz (i : Nat) | seqv (a : E) | seq (a : E)
  | zip (a b : E)
  | enum (a : E)
/-- a place within the value of a slot -/
inductive P where
  | root (i : Nat) | at (p : P) (e : E)
/-- a target of a for, an assignment -/
inductive Tg where
  | nm (i : Nat) | tup (ts : Tgs)
inductive Tgs where
  | nil | cons (t : Tg) (ts : Tgs)
end
mutual
inductive S where
  | set (tg : Tg) (e : E)
  | par (is : List Nat) (es : Es)
  | put (p : P) (e : E)
  /-- x[i] = e with an index that calls -/
  | putr (x : Nat) (i e : E)
  | aug (i : Nat) (o : Op2) (e : E)
  | augp (p : P) (o : Op2) (e : E)
  | ex (e : E)
  | ret (e : E) | ret0
  | ite (c : E) (a b : Ss)
  | loop (tg : Tg) (it : It) (body : Ss)
  | whl (c : E) (body : Ss)
  | brk | cnt | pass
inductive Ss where
  | nil | cons (s : S) (ss : Ss)
end

/-! ### meanings of operators -/
def line : Nat := 16777216
def fits (n : Nat) : Bool := decide (n ≤ line)
theorem fits_iff {n : Nat} : fits n = true ↔ n ≤ line := by unfold fits; exact decide_eq_true_iff
def strRep (s : Str) (k : Nat) : Str := ⟨(List.replicate k s.cps).foldl (· ++ ·) #[]⟩
def Op2.run : Op2 → D → D → Option D
  | .add, .int i, .int j => some (.int (i + j))
  | .add, .str x, .str y => if x.length + y.length ≤ line then some (.str (x ++ y)) else none
  | .add, .tup xs, .tup ys => if xs.length + ys.length ≤ line ∧ D.immL xs ∧ D.immL ys then some (.tup (xs ++ ys)) else none
  | .add, .lst xs, .lst ys => if xs.length + ys.length ≤ line ∧ D.immL xs ∧ D.immL ys then some (.lst (xs ++ ys)) else none
  | .sub, .int i, .int j => some (.int (i - j))
  | .mul, .int i, .int j => if i.natAbs < 2 ^ 64 ∨ j.natAbs < 2 ^ 64 then some (.int (i * j)) else none
  | .mul, .tup [x], .int k => if 1 ≤ k ∧ k ≤ 1000 ∧ x.imm then some (.tup (List.replicate k.toNat x)) else none
  | .mul, .str s, .int k => if 1 ≤ k ∧ k ≤ 1000 ∧ s.length ≤ 1000 then some (.str (strRep s k.toNat)) else none
  | .mul, .lst xs, .int k => if -1000000 ≤ k ∧ k ≤ 1000000 ∧ xs.length * k.toNat ≤ line ∧ D.immL xs then some (.lst (List.replicate k.toNat xs).flatten) else none
  | .fdiv, .int i, .int j => if j ≠ 0 ∧ j.natAbs < 1073741824 then some (.int (i.fdiv j)) else none
  | .mod, .int i, .int j => if j ≠ 0 then some (.int (i.fmod j)) else none
  | .pow, .int i, .int j => if 0 ≤ j ∧ j ≤ 1000000 ∧ i.natAbs < 2 ^ 64 then some (.int (i ^ j.toNat)) else none
  | .shl, .int i, .int j => if 0 ≤ j ∧ j ≤ 1000000 ∧ i.natAbs < 2 ^ 64 then some (.int (i * 2 ^ j.toNat)) else none
  | .shr, .int i, .int j => if 0 ≤ j then some (.int (i / 2 ^ j.toNat)) else none
  | _, _, _ => none

/-- op= of ints -/
def Op2.runI : Op2 → Int → Int → Option Int
  | .add, i, j => some (i + j)
  | .sub, i, j => some (i - j)
  | _, _, _ => none

def D.memL (x : D) (xs : List D) : Bool := xs.any fun y => y.eqv x
def D.memOk (x : D) (ys : List D) : Bool := x.cmpb && D.cmpbL ys && decide (x.dep ≤ 60)
def Cmp.run : Cmp → D → D → Option Bool
  | .eq, x, y => if x.cmpb && y.cmpb && decide (min x.dep y.dep ≤ 60) then some (x.eqv y) else none
  | .ne, x, y => if x.cmpb && y.cmpb && decide (min x.dep y.dep ≤ 60) then some (!x.eqv y) else none
  | .lt, .int i, .int j => some (decide (i < j))
  | .le, .int i, .int j => some (decide (i ≤ j))
  | .gt, .int i, .int j => some (decide (j < i))
  | .ge, .int i, .int j => some (decide (j ≤ i))
  | .is, .bl a, .bl b => some (decide (a = b))
  | .isn, .bl a, .bl b => some (!decide (a = b))
  | .is, x, .non => if x.isNo then none else some x.isNon
  | .isn, x, .non => if x.isNo then none else some (!x.isNon)
  | .mem, x, .lst ys => if x.memOk ys then some (x.memL ys) else none
  | .mem, x, .rol _ ys => if x.memOk ys then some (x.memL ys) else none
  | .mem, x, .tup ys => if x.memOk ys then some (x.memL ys) else none
  | .nmem, x, .lst ys => if x.memOk ys then some (!x.memL ys) else none
  | .nmem, x, .rol _ ys => if x.memOk ys then some (!x.memL ys) else none
  | .nmem, x, .tup ys => if x.memOk ys then some (!x.memL ys) else none
  | _, _, _ => none
def D.truth : D → Option Bool
  | .non => some false
  | .bl b => some b
  | .int i => some (i != 0)
  | .str s => if s.length ≤ line then some (s.length != 0) else none
  | .tup xs | .lst xs | .rol _ xs => some (!xs.isEmpty)
  | .no | .dct _ _ => none
def Ty.of : Ty → D → Option Bool
  | _, .no => none
  | _, .dct _ _ => none
  | .int, .int _ => some true
  | .int, .bl _ => some true
  | .bool, .bl _ => some true
  | .str, .str _ => some true
  | .tuple, .tup _ => some true
  | .list, .lst _ => some true
  | .list, .rol _ _ => some true
  | _, _ => some false
def D.isIs (x : D) : List Ty → Option Bool
  | [] => some false
  | t :: ts => match t.of x with
    | some true => some true
    | some false => x.isIs ts
    | none => none
/-- the place of an index, negative ones from the end -/
def ixN (n : Nat) (i : Int) : Option Nat := if 0 ≤ i then (if i < n then some i.toNat else none) else if -(n : Int) ≤ i then some (i + n).toNat else none
def D.item (x i : D) : Option D :=
  match x, i with
  | .tup xs, .int k | .lst xs, .int k | .rol _ xs, .int k => (ixN xs.length k).bind fun j => xs[j]?
  | .str s, .int k => if s.length ≤ line then (ixN s.cps.toList.length k).bind fun j => s.cps.toList[j]?.map fun c => .str ⟨#[c]⟩ else none
  | _, _ => none
/-- a bound of a slice of n items, d where it is left out -/
def sIx (n d : Nat) : Option Int → Nat
  | none => d
  | some v => if v < 0 then (v + n).toNat else min v.toNat n
def cut {α : Type} (xs : List α) (lo hi : Option Int) : List α := (xs.drop (sIx xs.length 0 lo)).take (sIx xs.length xs.length hi - sIx xs.length 0 lo)
def D.slice (x : D) (lo hi : Option Int) : Option D :=
  match x with
  | .tup xs => if D.immL xs then some (.tup (cut xs lo hi)) else none
  | .lst xs => if D.immL xs then some (.lst (cut xs lo hi)) else none
  | .rol _ xs => if D.immL xs then some (.lst (cut xs lo hi)) else none
  | .str s => if s.length ≤ line then some (.str ⟨(cut s.cps.toList lo hi).toArray⟩) else none
  | _ => none
def D.ints : List D → Option (List Int)
  | [] => some []
  | .int i :: xs => (D.ints xs).map (i :: ·)
  | _ => none
def D.strs : List D → Option (List Str)
  | [] => some []
  | .str i :: xs => (D.strs xs).map (i :: ·)
  | _ => none
def maxI : List Int → Option Int
  | [] => none
  | x :: xs => some (xs.foldl max x)
def minI : List Int → Option Int
  | [] => none
  | x :: xs => some (xs.foldl min x)
def Blt.run : Blt → List D → Option D
  | .len, [.tup xs] => some (.int xs.length)
  | .len, [.lst xs] => some (.int xs.length)
  | .len, [.rol _ xs] => some (.int xs.length)
  | .len, [.str s] => if s.length ≤ line then some (.int s.length) else none
  | .int, [.int i] => some (.int i)
  | .int, [.bl b] => some (.int (if b then 1 else 0))
  | .abs, [.int i] => some (.int (if i < 0 then -i else i))
  | .max, [.int i, .int j] => some (.int (if j > i then j else i))
  | .min, [.int i, .int j] => some (.int (if j < i then j else i))
  | .max, [.lst xs] => (D.ints xs).bind fun ns => (maxI ns).map .int
  | .max, [.tup xs] => (D.ints xs).bind fun ns => (maxI ns).map .int
  | .min, [.lst xs] => (D.ints xs).bind fun ns => (minI ns).map .int
  | .min, [.tup xs] => (D.ints xs).bind fun ns => (minI ns).map .int
  | .sum, [.lst xs] => (D.ints xs).map fun ns => .int ns.sum
  | .tuple, [.lst xs] => if D.immL xs then some (.tup xs) else none
  | .tuple, [.rol _ xs] => if D.immL xs then some (.tup xs) else none
  | .tuple, [.tup xs] => if D.immL xs then some (.tup xs) else none
  | .list, [.lst xs] => if D.immL xs then some (.lst xs) else none
  | .list, [.rol _ xs] => if D.immL xs then some (.lst xs) else none
  | .list, [.tup xs] => if D.immL xs then some (.lst xs) else none
  | .bool, [.int i] => some (.bl (i != 0))
  | .bool, [.bl b] => some (.bl b)
  | _, _ => none

/-! ### sorted(set(..)) of tuples of ints -/
def lexLt : List Int → List Int → Bool
  | [], [] => false
  | [], _ :: _ => true
  | _ :: _, [] => false
  | x :: xs, y :: ys => decide (x < y) || (x == y && lexLt xs ys)
def insT (x : List Int) : List (List Int) → List (List Int)
  | [] => [x]
  | y :: ys => if x = y then y :: ys else if lexLt x y = true then x :: y :: ys else y :: insT x ys
def sortT (ts : List (List Int)) : List (List Int) := ts.foldr insT []
def D.tups : List D → Option (List (List Int))
  | [] => some []
  | .tup xs :: r => (D.ints xs).bind fun t => (D.tups r).map (t :: ·)
  | _ => none
def sortOk (ts : List (List Int)) : Bool := decide (ts.length < 64) && ts.all fun t => !t.isEmpty && decide (t.length ≤ 1000)
def srtRun : D → Option D
  | .lst xs => (D.tups xs).bind fun ts => if sortOk ts = true then some (.lst ((sortT ts).map fun t => .tup (t.map .int))) else none
  | .rol _ xs => (D.tups xs).bind fun ts => if sortOk ts = true then some (.lst ((sortT ts).map fun t => .tup (t.map .int))) else none
  | _ => none

/-! ### places -/
/-- the value at a list of places -/
def D.get : D → List D → Option D
  | d, [] => some d
  | .lst xs, .int k :: ss => match (ixN xs.length k).bind fun j => xs[j]? with
    | some x => x.get ss
    | none => none
  | _, _ :: _ => none
/-- .. changed -/
def D.upd (f : D → Option D) : D → List D → Option D
  | d, [] => f d
  | .lst xs, .int k :: ss => match ixN xs.length k with
    | some j => match xs[j]? with
      | some x => (D.upd f x ss).map fun y => .lst (xs.set j y)
      | none => none
    | none => none
  | _, _ :: _ => none

/-- a method that changes its list: what it answers, the list behind it -/
def Mth.run : Mth → List D → List D → Option (D × List D)
  | .append, xs, [x] => if xs.length < line then some (.non, xs ++ [x]) else none
  | .extend, xs, [.lst ys] => if xs.length + ys.length ≤ line ∧ D.immL ys then some (.non, xs ++ ys) else none
  | .pop, xs, [] => match xs.getLast? with
    | some x => some (x, xs.dropLast)
    | none => none
  | .reverse, xs, [] => some (.non, xs.reverse)
  | _, _, _ => none

def D.int? : D → Option Int
  | .int i => some i
  | _ => none
def D.lst? : D → Option (List D)
  | .lst xs => some xs
  | _ => none
/-- not a frozen one -/
def D.movable : D → Bool
  | .rol _ _ => false
  | .no => false
  | _ => true
/-- stands still while it is walked -/
def D.still : D → Bool
  | .lst _ => false
  | _ => true
/-- v at the last of the places -/
def D.putAt (v : D) (d : D) (ss : List D) : Option D :=
  match ss.getLast? with
  | none => none
  | some i => D.upd (fun c => match c, i with
    | .lst xs, .int k => (ixN xs.length k).map fun j => .lst (xs.set j v)
    | _, _ => none) d ss.dropLast
/-- never changes -/
def D.sits : D → Bool
  | .tup _ => true
  | .rol true _ => true
  | _ => false
def E.lent? : E → Option Nat
  | .lend i => some i
  | _ => none
/-- a bound of a slice -/
def partOf (e : E) (d : D) : Option (Option Int) := match e with
  | .part => some none
  | _ => d.int?.map some
/-- may stand as a test -/
def E.testable : E → Bool
  | .ite _ _ _ => false
  | .lend _ => false
  | .part => false
  | .frz _ => false
  | .srt _ => false
  | _ => true
/-- no place: what it gives is its own -/
def E.temp : E → Bool
  | .var _ => false
  | .idx _ _ => false
  | _ => true
/-! ### quiet code changes nothing -/
mutual
def E.quiet : E → Bool
  | .var _ | .non | .bl _ | .int _ | .str _ | .glb _ | .part => true
  | .mov _ | .lend _ => false
  | .bin _ a b | .cmp _ a b | .idx a b | .and a b | .or a b => a.quiet && b.quiet
  | .chn _ _ a b c | .ite a b c | .slc a b c => a.quiet && b.quiet && c.quiet
  | .neg a | .not a | .isi a _ | .isis a _ => a.quiet
  | .tup es | .lst es | .blt _ es => es.quiet
  | .call _ _ | .callk _ _ _ _ | .comp _ _ _ _ _ _ | .mth _ _ _ | .frz _ | .srt _ => false
def Es.quiet : Es → Bool
  | .nil => true
  | .cons e es => e.quiet && es.quiet
end
def P.quiet : P → Bool
  | .root _ => true
  | .at p e => p.quiet && e.quiet
def P.isRoot : P → Bool
  | .root _ => true
  | .at _ _ => false
/-- the places but the last one are asked ahead: nothing changes meanwhile -/
def P.okIn : P → Bool
  | .root _ => true
  | .at p e => p.isRoot || (p.okIn && e.quiet)
/-- several slots stored -/
def setL (ok : Nat → Bool) : List Nat → List D → Env → Option Env
  | [], [], ρ => some ρ
  | i :: is, d :: ds, ρ => if i < ρ.length ∧ ok i = true then setL ok is ds (ρ.set i d) else none
  | _, _, _ => none

/-! ### the evaluator -/
/-- a value that must be there -/
def opt {α β : Type} (o : Option β) (f : β → R α) : R α := match o with
  | some b => f b
  | none => .st
/-- only if -/
def ifOk {α : Type} (b : Bool) (r : R α) : R α := if b = true then r else .st
section
variable (gl : Nat → Option D) (call : Nat → List D → R D)

/-- read a slot -/
def rd (ρ : Env) (i : Nat) : Option D := match ρ[i]? with
  | some .no => none
  | o => o
def needs (d : D) (a : E) (q : Bool) : Bool := d.imm || a.temp || q

/-- the arguments of a call: those that are lent are taken out of their slots -/
def takeL : List (Option Nat × D) → Env → Option (List D × Env)
  | [], ρ => some ([], ρ)
  | (none, d) :: r, ρ => (takeL r ρ).map fun p => (d :: p.1, p.2)
  | (some i, _) :: r, ρ => match rd ρ i with
    | some d => (takeL r (ρ.set i .no)).map fun p => (d :: p.1, p.2)
    | none => none
def giveL : List (Option Nat × D) → List D → Env → Env
  | (some i, _) :: r, d :: ds, ρ => (giveL r ds ρ).set i d
  | (none, _) :: r, _ :: ds, ρ => giveL r ds ρ
  | _, _, ρ => ρ
/-- keyword arguments in the parameters' order: n by position, then those of the parameters ks -/
def reord {α : Type} (n : Nat) (ks : List Nat) (as : List α) : List α := (List.range as.length).filterMap fun p => if p < n then as[p]? else as[n + ks.idxOf p]?
def items (d : D) : Option (List D) := match d with
  | .tup xs => if D.immL xs then some xs else none
  | .lst xs => if D.immL xs then some xs else none
  | .rol _ xs => if D.immL xs then some xs else none
  | _ => none
def rngL (i j : Int) : List D := (List.range (j - i).toNat).map fun (k : Nat) => .int (i + (k : Int))
def rngOk (i : Int) : Bool := decide (-(2 ^ 62) ≤ i ∧ i < 2 ^ 62)
def Tgs.len : Tgs → Nat
  | .nil => 0
  | .cons _ ts => ts.len + 1
mutual
/-- a target stores; ok i: the slot may be stored -/
def stT (ok : Nat → Bool) : Tg → D → Env → Option Env
  | .nm i, d, ρ => if i < ρ.length ∧ ok i = true then some (ρ.set i d) else none
  | .tup ts, d, ρ => match d with
    | .tup ds => if ds.length = ts.len then stTs ok ts ds ρ else none
    | _ => none
def stTs (ok : Nat → Bool) : Tgs → List D → Env → Option Env
  | .nil, ds, ρ => match ds with
    | [] => some ρ
    | _ => none
  | .cons t ts, ds, ρ => match ds with
    | d :: ds => (stT ok t d ρ).bind fun ρ' => stTs ok ts ds ρ'
    | [] => none
end
def wipe (ρ : Env) : List Nat → Env
  | [] => ρ
  | v :: vs => (wipe ρ vs).set v .no
/-- the frozen list is a list again -/
def thaw : Option Nat → Env → Option Env
  | none, ρ => some ρ
  | some i, ρ => match ρ[i]? with
    | some (.rol false xs) => some (ρ.set i (.lst xs))
    | _ => none
/-- a comprehension's turns: no exception leaves -/
def compL (turn : D → Env → R (Option D)) : List D → Env → R (List D)
  | [], ρ => .ok [] ρ
  | d :: ds, ρ => match turn d ρ with
    | .ok o ρ' => match compL turn ds ρ' with
      | .ok xs ρ'' => .ok (match o with
        | some x => x :: xs
        | none => xs) ρ''
      | .rz _ _ => .st
      | .st => .st
    | .rz _ _ => .st
    | .st => .st
def okAll : Nat → Bool := fun _ => true

/-- how a value is wanted: its owner the caller; borrowed where it is a place; its truth -/
inductive Md where
  | v | b | t
  deriving DecidableEq
def Md.tr (m : Md) (r : R D) : R D := match m with
  | .t => r.bind fun x ρ => opt x.truth fun k => .ok (.bl k) ρ
  | _ => r
/-- a place's value -/
def Md.plc (m : Md) (d : D) (ρ : Env) : R D := match m with
  | .v => ifOk d.imm (.ok d ρ)
  | .b => .ok d ρ
  | .t => opt d.truth fun k => .ok (.bl k) ρ
def D.isT : D → Bool
  | .bl b => b
  | _ => false
/-- no index is left -/
def callR (f : Nat) (as : List (Option Nat × D)) (ρ1 : Env) : R D := opt (takeL as ρ1) fun q => match call f q.1 with
    | .ok d ds' => .ok d (giveL as ds' q.2)
    | .rz x ds' => .rz x (giveL as ds' q.2)
    | .st => .st
mutual
def evM : E → Md → Env → R D
  | .var i, m, ρ => opt (rd ρ i) fun d => m.plc d ρ
  | .mov i, m, ρ => m.tr <| opt (rd ρ i) fun d => if d.imm = true then .ok d ρ else ifOk d.movable (.ok d (ρ.set i .no))
  | .lend _, _, _ => .st
  | .non, m, ρ => m.tr <| .ok .non ρ
  | .bl b, m, ρ => m.tr <| .ok (.bl b) ρ
  | .int i, m, ρ => m.tr <| .ok (.int i) ρ
  | .str s, m, ρ => m.tr <| .ok (.str s) ρ
  | .part, m, ρ => m.tr <| .ok .non ρ
  | .glb g, m, ρ => m.tr <| opt (gl g) fun d => ifOk d.imm (.ok d ρ)
  | .bin o a b, m, ρ => m.tr <| (evM a .b ρ).bind fun x ρ1 => ifOk (needs x a b.quiet) <| (evM b .b ρ1).bind fun y ρ2 => opt (o.run x y) fun z => .ok z ρ2
  | .neg a, m, ρ => m.tr <| (evM a .b ρ).bind fun x ρ1 => opt x.int? fun i => .ok (.int (-i)) ρ1
  | .cmp o a b, m, ρ => m.tr <| (evM a .b ρ).bind fun x ρ1 => ifOk (needs x a b.quiet) <| (evM b .b ρ1).bind fun y ρ2 => opt (o.run x y) fun z => .ok (.bl z) ρ2
  | .chn o p a b c, m, ρ => m.tr <| (evM a .b ρ).bind fun x ρ1 => ifOk (needs x a b.quiet) <| (evM b .b ρ1).bind fun y ρ2 => opt (o.run x y) fun z =>
      if z = true then ifOk (needs y b c.quiet) <| (evM c .b ρ2).bind fun w ρ3 => opt (p.run y w) fun k => .ok (.bl k) ρ3 else .ok (.bl false) ρ2
  | .not a, m, ρ => match m with
    | .t => (evM a .t ρ).bind fun k ρ1 => .ok (.bl (!k.isT)) ρ1
    | _ => (evM a .b ρ).bind fun x ρ1 => opt x.truth fun k => .ok (.bl (!k)) ρ1
  | .and a b, m, ρ => match m with
    | .t => (evM a .t ρ).bind fun k ρ1 => if k.isT = true then evM b .t ρ1 else .ok (.bl false) ρ1
    | _ => (evM a .v ρ).bind fun x ρ1 => opt x.truth fun k => if k = true then evM b .v ρ1 else .ok x ρ1
  | .or a b, m, ρ => match m with
    | .t => (evM a .t ρ).bind fun k ρ1 => if k.isT = true then .ok (.bl true) ρ1 else evM b .t ρ1
    | _ => (evM a .v ρ).bind fun x ρ1 => opt x.truth fun k => if k = true then .ok x ρ1 else evM b .v ρ1
  | .ite c a b, m, ρ => m.tr <| (evM c .t ρ).bind fun k ρ1 => if k.isT = true then evM a .v ρ1 else evM b .v ρ1
  | .tup es, m, ρ => m.tr <| (evEs es ρ).bind fun ds ρ1 => ifOk (fits ds.length) (.ok (.tup ds) ρ1)
  | .lst es, m, ρ => m.tr <| (evEs es ρ).bind fun ds ρ1 => ifOk (fits ds.length) (.ok (.lst ds) ρ1)
  | .idx a i, m, ρ => (evM a .b ρ).bind fun x ρ1 => ifOk (needs x a i.quiet) <| (evM i .v ρ1).bind fun k ρ2 => opt (x.item k) fun d => m.plc d ρ2
  | .slc a lo hi, m, ρ => m.tr <| (evM a .b ρ).bind fun x ρ1 => ifOk (needs x a (lo.quiet && hi.quiet)) <| (evM lo .v ρ1).bind fun l ρ2 => opt (partOf lo l) fun l => (evM hi .v ρ2).bind fun h ρ3 =>
      opt (partOf hi h) fun h => opt (x.slice l h) fun d => .ok d ρ3
  | .call f es, m, ρ => m.tr <| (evAs es ρ).bind fun as ρ1 => callR call f as ρ1
  | .callk f n ks es, m, ρ => m.tr <| (evAs es ρ).bind fun as ρ1 => callR call f (reord n ks as) ρ1
  | .blt b es, m, ρ => m.tr <| (evBs es ρ).bind fun ds ρ1 => opt (b.run ds) fun d => .ok d ρ1
  | .isi a t, m, ρ => m.tr <| (evM a .b ρ).bind fun x ρ1 => opt (t.of x) fun b => .ok (.bl b) ρ1
  | .isis a ts, m, ρ => m.tr <| (evM a .b ρ).bind fun x ρ1 => opt (x.isIs ts) fun b => .ok (.bl b) ρ1
  | .comp elt tg it cond _ own, m, ρ => m.tr <| (evI it ρ).bind fun q ρ1 =>
      (compL (fun d ρ' => opt (stT (fun i => own.contains i) tg d ρ') fun ρ2 => (evM cond .t ρ2).bind fun k ρ3 =>
        if k.isT = true then (evM elt .v ρ3).bind fun x ρ4 => .ok (some x) (wipe ρ4 own) else .ok none (wipe ρ3 own)) q.1 (wipe ρ1 own)).bind fun xs ρ5 =>
      opt (thaw q.2 ρ5) fun ρ6 => .ok (.lst xs) ρ6
  | .mth k p es, m, ρ => m.tr <| (evP p ρ).bind fun q _ => opt (rd ρ q.1) fun d0 => opt (d0.get q.2) fun c0 => opt c0.lst? fun _ => (evEs es ρ).bind fun ds ρ2 =>
      opt (rd ρ2 q.1) fun d => opt (d.get q.2) fun c => opt c.lst? fun xs => opt (k.run xs ds) fun r =>
        opt (D.upd (fun _ => some (.lst r.2)) d q.2) fun d' => .ok r.1 (ρ2.set q.1 d')
  | .frz e, m, ρ => m.tr <| (evM e .v ρ).bind fun d ρ1 => opt d.lst? fun xs => ifOk (D.immL xs) (.ok (.rol true xs) ρ1)
  | .srt e, m, ρ => m.tr <| (evM e .b ρ).bind fun d ρ1 => opt (srtRun d) fun d' => .ok d' ρ1
def evEs : Es → Env → R (List D)
  | .nil, ρ => .ok [] ρ
  | .cons e es, ρ => (evM e .v ρ).bind fun d ρ1 => (evEs es ρ1).bind fun ds ρ2 => .ok (d :: ds) ρ2
/-- borrowed arguments of a built-in -/
def evBs : Es → Env → R (List D)
  | .nil, ρ => .ok [] ρ
  | .cons e es, ρ => (evM e .b ρ).bind fun d ρ1 => ifOk (needs d e es.quiet) <| (evBs es ρ1).bind fun ds ρ2 => .ok (d :: ds) ρ2
/-- arguments of a call: values, or slots that are lent -/
def evAs : Es → Env → R (List (Option Nat × D))
  | .nil, ρ => .ok [] ρ
  | .cons e es, ρ => match e.lent? with
    | some i => opt (rd ρ i) fun _ => (evAs es ρ).bind fun ds ρ2 => .ok ((some i, .no) :: ds) ρ2
    | none => (evM e .v ρ).bind fun d ρ1 => (evAs es ρ1).bind fun ds ρ2 => .ok ((none, d) :: ds) ρ2
/-- what is walked; the slot that is frozen meanwhile -/
def evI : It → Env → R (List D × Option Nat)
  | .rng1 a, ρ => (evM a .v ρ).bind fun x ρ1 => opt x.int? fun j => ifOk (rngOk j && fits j.toNat) (.ok (rngL 0 j, none) ρ1)
  | .rng2 a b, ρ => (evM a .v ρ).bind fun x ρ1 => (evM b .v ρ1).bind fun y ρ2 => opt x.int? fun i => opt y.int? fun j => ifOk (rngOk i && rngOk j && fits (j - i).toNat) (.ok (rngL i j, none) ρ2)
  | .froz i, ρ => opt (rd ρ i) fun d => opt (items d) fun xs => if d.still = true then .ok (xs, none) ρ else .ok (xs, some i) (ρ.set i (.rol false xs))
  | .seqv a, ρ => (evM a .b ρ).bind fun d ρ1 => opt (items d) fun xs => ifOk (d.sits) (.ok (xs, none) ρ1)
  | .seq a, ρ => (evM a .v ρ).bind fun d ρ1 => opt (items d) fun xs => .ok (xs, none) ρ1
  | .zip _ _, _ => .st
  | .enum _, _ => .st
/-- a place: the slot, the places within -/
def evP : P → Env → R (Nat × List D)
  | .root i, ρ => .ok (i, []) ρ
  | .at p e, ρ => (evP p ρ).bind fun q _ => opt (rd ρ q.1) fun d0 => opt (d0.get q.2) fun _ => (evM e .v ρ).bind fun d _ => .ok (q.1, q.2 ++ [d]) ρ
end

/-! ### statements -/
/-- how a statement ends -/
inductive O where
  | nx (ρ : Env) | rt (d : D) (ρ : Env) | bk (ρ : Env) | ct (ρ : Env)
  | rz (x : Ex) (ρ : Env) | st
  deriving Inhabited
def R.o {α : Type} (r : R α) (f : α → Env → O) : O := match r with
  | .ok a ρ => f a ρ
  | .rz x ρ => .rz x ρ
  | .st => .st
def optO {β : Type} (o : Option β) (f : β → O) : O := match o with
  | some b => f b
  | none => .st
def ifO (b : Bool) (r : O) : O := if b = true then r else .st
def O.next (o : O) (f : Env → O) : O := match o with
  | .nx ρ => f ρ
  | o => o
/-- a turn of a loop, then the others -/
def O.turn (o : O) (f : Env → O) : O := match o with
  | .nx ρ => f ρ
  | .ct ρ => f ρ
  | .bk ρ => .nx ρ
  | o => o
/-- the turns of a for -/
def forL (turn : D → Env → O) : List D → Env → O
  | [], ρ => .nx ρ
  | d :: ds, ρ => (turn d ρ).turn fun ρ' => forL turn ds ρ'
/-- the turns of a while: at most n -/
def whlL (c : Env → R D) (body : Env → O) : Nat → Env → O
  | 0, _ => .st
  | n + 1, ρ => (c ρ).o fun k ρ1 => if k.isT = true then (body ρ1).turn (fun ρ' => whlL c body n ρ') else .nx ρ1
variable (fuel : Nat)
/-- the slot of the list that is walked is not stored meanwhile -/
def okBut (ok : Nat → Bool) : Option Nat → Nat → Bool
  | none => ok
  | some i => fun j => ok j && j != i
/-- the frozen list is a list again -/
def O.thaw (f : Option Nat) : O → O
  | .nx ρ => optO (Ev.thaw f ρ) .nx
  | .rt d ρ => optO (Ev.thaw f ρ) fun ρ => .rt d ρ
  | .rz x ρ => optO (Ev.thaw f ρ) fun ρ => .rz x ρ
  | _ => .st
mutual
def evS : S → (Nat → Bool) → Env → O
  | .set tg e, ok, ρ => (evM gl call e .v ρ).o fun d ρ1 => optO (stT ok tg d ρ1) .nx
  | .par is es, ok, ρ => (evEs gl call es ρ).o fun ds ρ1 => optO (setL ok is ds ρ1) .nx
  | .put p e, _, ρ => (evM gl call e .v ρ).o fun v ρ1 => (evP gl call p ρ1).o fun q _ =>
      optO (rd ρ1 q.1) fun d => optO (D.putAt v d q.2) fun d' => .nx (ρ1.set q.1 d')
  | .putr x i e, _, ρ => (evM gl call e .v ρ).o fun v ρ1 => optO (rd ρ1 x) fun _ => (evM gl call i .v ρ1).o fun k ρ2 => ifO k.imm <|
      optO (rd ρ2 x) fun d => optO (D.putAt v d [k]) fun d' => .nx (ρ2.set x d')
  | .aug i o e, ok, ρ => optO (rd ρ i) fun x => optO x.int? fun a => (evM gl call e .v ρ).o fun y ρ1 => optO y.int? fun b => optO (o.runI a b) fun z => optO (stT ok (.nm i) (.int z) ρ1) .nx
  | .ex e, _, ρ => (evM gl call e .v ρ).o fun _ ρ1 => .nx ρ1
  | .ret e, _, ρ => (evM gl call e .v ρ).o fun d ρ1 => .rt d ρ1
  | .ret0, _, ρ => .rt .non ρ
  | .ite c a b, ok, ρ => (evM gl call c .t ρ).o fun k ρ1 => if k.isT = true then evSs a ok ρ1 else evSs b ok ρ1
  | .loop tg it body, ok, ρ => (evI gl call it ρ).o fun q ρ1 => (forL (fun d ρ' => optO (stT (okBut ok q.2) tg d ρ') fun ρ2 => evSs body (okBut ok q.2) ρ2) q.1 ρ1).thaw q.2
  | .whl c body, ok, ρ => whlL (fun ρ => evM gl call c .t ρ) (fun ρ => evSs body ok ρ) fuel ρ
  | .brk, _, ρ => .bk ρ
  | .cnt, _, ρ => .ct ρ
  | .pass, _, ρ => .nx ρ
  | .augp _ _ _, _, _ => .st
def evSs : Ss → (Nat → Bool) → Env → O
  | .nil, _, ρ => .nx ρ
  | .cons s ss, ok, ρ => (evS s ok ρ).next fun ρ1 => evSs ss ok ρ1
end
end

/-! ### defs -/
structure Def where
  ps : Nat            -- parameters
  ns : Nat            -- slots
  body : Ss
structure Pg where
  defs : List Def
  glb : List D
/-- the ends of a call: what comes back, the parameters behind it -/
def fin (ds : List D) (ρ : Env) : List D := List.zipWith (fun d x => if d.imm = true then d else x) ds ρ
/-- slots that may be stored: not the parameters that came as changing things -/
def okP (ds : List D) (i : Nat) : Bool := match ds[i]? with
  | some d => d.imm
  | none => true
def O.fin (ds : List D) : O → R D
  | .nx ρ => .ok .non (Ev.fin ds ρ)
  | .rt d ρ => .ok d (Ev.fin ds ρ)
  | .rz x ρ => .rz x (Ev.fin ds ρ)
  | _ => .st
def callBy (p : Pg) (fuel : Nat) (call : Nat → List D → R D) (f : Nat) (ds : List D) : R D :=
  opt p.defs[f]? fun df => if ds.length = df.ps ∧ df.ps ≤ df.ns then
      (evSs (fun g => p.glb[g]?) call fuel df.body (okP ds) (ds ++ List.replicate (df.ns - df.ps) .no)).fin ds
    else .st
def run (p : Pg) (fuel : Nat) : Nat → Nat → List D → R D
  | 0, _, _ => .st
  | n + 1, f, ds => callBy p fuel (run p fuel n) f ds
end Ev
end

section
set_option Elab.async false
set_option linter.all false
set_option maxRecDepth 100000
/-! EvB1: values with their places: what the evaluator's data are in the machine. -/
namespace Ev
open PySem L2

/-- data with the addresses of their objects -/
inductive A where
  | no | non | bl (b : Bool) | int (i : Int) | str (s : Str)
  | tup (a : Addr) (xs : List A) | lst (a : Addr) (xs : List A) | rol (a : Addr) (xs : List A) | kol (a : Addr) (xs : List A)
  deriving Inhabited
def A.val : A → V
  | .no => .non
  | .non => .non
  | .bl b => .bl b
  | .int i => .int i
  | .str s => .str s
  | .tup a _ => .ref a
  | .lst a _ => .ref a
  | .rol a _ => .ref a
  | .kol a _ => .ref a
mutual
def A.er : A → D
  | .no => .no
  | .non => .non
  | .bl b => .bl b
  | .int i => .int i
  | .str s => .str s
  | .tup _ xs => .tup (erL xs)
  | .lst _ xs => .lst (erL xs)
  | .rol _ xs => .rol false (erL xs)
  | .kol _ xs => .rol true (erL xs)
def erL : List A → List D
  | [] => []
  | x :: xs => x.er :: erL xs
end
mutual
/-- the places that it owns (true), that it wants to stand still (false) -/
def A.foot : A → List (Bool × Addr)
  | .tup _ xs => footL xs
  | .lst a xs => (true, a) :: footL xs
  | .rol a _ => [(false, a)]
  | .no | .non | .bl _ | .int _ | .str _ | .kol _ _ => []
def footL : List A → List (Bool × Addr)
  | [] => []
  | x :: xs => x.foot ++ footL xs
end
/-- a list of the module's own -/
def KLst (K : PySem.W.Frag) (a : Addr) (xs : List V) : Prop :=
  ∃ (o : Obj) (its : Array Value) (n : Nat), K.lookup a = some o ∧ o.cls = .type "list" ∧ o.dict = none ∧ o.data = .seq its n ∧ its.size ≤ sizeLine ∧ Vals xs its.toList
/-- .., or one that nobody changes -/
def KSq (K : PySem.W.Frag) (H : Hp) (a : Addr) (xs : List V) : Prop := KLst K a xs ∨ ∃ o, H a = some (.frz o (.lst xs))
mutual
def A.ok (K : PySem.W.Frag) (H : Hp) : A → Prop
  | .str s => PySem.PyData.strOk s = true
  | .tup a xs => SqT K H a (xs.map A.val) ∧ xs.length ≤ line ∧ okL K H xs
  | .lst a xs => H a = some (.lst (xs.map A.val)) ∧ xs.length ≤ line ∧ okL K H xs
  | .rol a xs => Rd H a (.lst (xs.map A.val)) ∧ xs.length ≤ line ∧ okL K H xs ∧ D.immL (erL xs) = true
  | .kol a xs => KSq K H a (xs.map A.val) ∧ xs.length ≤ line ∧ okL K H xs ∧ D.immL (erL xs) = true
  | .no | .non | .bl _ | .int _ => True
def okL (K : PySem.W.Frag) (H : Hp) : List A → Prop
  | [] => True
  | x :: xs => x.ok K H ∧ okL K H xs
end
theorem erL_map (xs : List A) : erL xs = xs.map A.er := by
  induction xs with
  | nil => rfl
  | cons x xs ih => rw [erL, ih]; rfl
theorem erL_length (xs : List A) : (erL xs).length = xs.length := by rw [erL_map, List.length_map]
theorem okL_iff {K : PySem.W.Frag} {H : Hp} {xs : List A} : okL K H xs ↔ ∀ x ∈ xs, x.ok K H := by
  induction xs with
  | nil => simp [okL]
  | cons x xs ih => simp [okL, ih]
theorem footL_append (xs ys : List A) : footL (xs ++ ys) = footL xs ++ footL ys := by
  induction xs with
  | nil => rfl
  | cons x xs ih => simp [footL, ih]
theorem okL_append {K : PySem.W.Frag} {H : Hp} {xs ys : List A} : okL K H (xs ++ ys) ↔ okL K H xs ∧ okL K H ys := by
  simp only [okL_iff, List.mem_append]
  constructor
  · exact fun h => ⟨fun x hx => h x (.inl hx), fun x hx => h x (.inr hx)⟩
  · rintro ⟨h1, h2⟩ x (hx | hx)
    · exact h1 x hx
    · exact h2 x hx
theorem mem_footL {p : Bool × Addr} {xs : List A} : p ∈ footL xs ↔ ∃ x ∈ xs, p ∈ x.foot := by
  induction xs with
  | nil => simp [footL]
  | cons x xs ih => simp [footL, ih]
/-- what may be written -/
def wrL (Γ : List A) : List Addr := (footL Γ).filterMap fun p => if p.1 = true then some p.2 else none
theorem mem_wrL {a : Addr} {Γ : List A} : a ∈ wrL Γ ↔ (true, a) ∈ footL Γ := by
  unfold wrL
  rw [List.mem_filterMap]
  constructor
  · rintro ⟨⟨b, c⟩, m, e⟩
    cases b <;> simp at e
    subst e; exact m
  · exact fun m => ⟨_, m, by simp⟩

/-! ### data without changing parts own nothing -/
mutual
theorem imm_foot : ∀ (x : A), x.er.imm = true → x.foot = []
  | .no, h => rfl
  | .non, _ => rfl
  | .bl _, _ => rfl
  | .int _, _ => rfl
  | .str _, _ => rfl
  | .tup a xs, h => by
    have := imm_footL xs (by simpa [A.er, D.imm] using h)
    simpa [A.foot] using this
  | .lst a xs, h => by simp [A.er, D.imm] at h
  | .rol a xs, h => by simp [A.er, D.imm] at h
  | .kol a xs, _ => rfl
theorem imm_footL : ∀ (xs : List A), D.immL (erL xs) = true → footL xs = []
  | [], _ => rfl
  | x :: xs, h => by
    rw [erL, D.immL, Bool.and_eq_true] at h
    have h1 := imm_foot x h.1
    have h2 := imm_footL xs h.2
    simp [footL, h1, h2]
end

/-! ### what changes -/
def Fr (W : List Addr) (H H' : Hp) : Prop := (∀ a o, H a = some o → a ∉ W → H' a = some o) ∧ ∀ a, H a ≠ none → H' a ≠ none
theorem Fr.refl {W : List Addr} {H : Hp} : Fr W H H := ⟨fun _ _ h _ => h, fun _ h => h⟩
theorem Fr.mono {W W' : List Addr} {H H' : Hp} (f : Fr W H H') (h : ∀ a ∈ W, a ∈ W') : Fr W' H H' := ⟨fun a o e n => f.1 a o e fun m => n (h a m), f.2⟩
theorem Fr.trans {W W' : List Addr} {H H1 H2 : Hp} (f : Fr W H H1) (g : Fr W' H1 H2) (h : ∀ a ∈ W', a ∈ W ∨ H a = none) : Fr W H H2 :=
  ⟨fun a o e n => g.1 a o (f.1 a o e n) fun m => (h a m).elim n fun z => (by rw [z] at e; cases e), fun a e => g.2 a (f.2 a e)⟩
theorem Fr.new {H : Hp} {p : Addr} {o : HO} (hp : H p = none) : Fr [] H (upd H p o) := by
  refine ⟨fun a u e _ => ?_, fun a e => ?_⟩
  · rw [upd_ne (ne_of_none e hp)]; exact e
  · by_cases h : a = p
    · subst h; rw [upd_same]; simp
    · rw [upd_ne h]; exact e
theorem Fr.put {H : Hp} {p : Addr} {o : HO} : Fr [p] H (upd H p o) := by
  refine ⟨fun a u e n => ?_, fun a e => ?_⟩
  · rw [upd_ne (by simpa using n)]; exact e
  · by_cases h : a = p
    · subst h; rw [upd_same]; simp
    · rw [upd_ne h]; exact e
/-- the places that may be written hold lists -/
def Wr (W : List Addr) (H : Hp) : Prop := ∀ a ∈ W, ∃ xs, H a = some (.lst xs)
section
variable {K : PySem.W.Frag} {H H' : Hp}
theorem SqT.fr {W : List Addr} {a : Addr} {vs : List V} (h : SqT K H a vs) (f : Fr W H H') (w : Wr W H) : SqT K H' a vs := by
  rcases h with (h | ⟨o, h⟩) | h
  · exact .inl (.inl (f.1 a _ h fun m => by obtain ⟨xs, e⟩ := w a m; rw [h] at e; cases e))
  · exact .inl (.inr ⟨o, f.1 a _ h fun m => by obtain ⟨xs, e⟩ := w a m; rw [h] at e; cases e⟩)
  · exact .inr h
mutual
theorem ok_fr {W : List Addr} (f : Fr W H H') (w : Wr W H) : ∀ (x : A), x.ok K H → (∀ p ∈ x.foot, p.2 ∉ W) → x.ok K H'
  | .no, _, _ => trivial
  | .non, _, _ => trivial
  | .bl _, _, _ => trivial
  | .int _, _, _ => trivial
  | .str _, h, _ => h
  | .tup a xs, h, d => by
    rw [A.ok] at h ⊢
    exact ⟨SqT.fr h.1 f w, h.2.1, ok_frL f w xs h.2.2 (by rw [A.foot] at d; exact d)⟩
  | .lst a xs, h, d => by
    rw [A.ok] at h ⊢
    rw [A.foot] at d
    exact ⟨f.1 a _ h.1 (d (true, a) List.mem_cons_self), h.2.1, ok_frL f w xs h.2.2 fun b m => d b (List.mem_cons_of_mem _ m)⟩
  | .rol a xs, h, d => by
    rw [A.ok] at h ⊢
    have na : a ∉ W := d (false, a) (by simp [A.foot])
    have i := imm_footL xs h.2.2.2
    refine ⟨?_, h.2.1, ok_frL f w xs h.2.2.1 (by simp [i]), h.2.2.2⟩
    rcases h.1 with h1 | ⟨o, h1⟩
    · exact .inl (f.1 a _ h1 na)
    · exact .inr ⟨o, f.1 a _ h1 na⟩
  | .kol a xs, h, d => by
    rw [A.ok] at h ⊢
    have i := imm_footL xs h.2.2.2
    refine ⟨?_, h.2.1, ok_frL f w xs h.2.2.1 (by simp [i]), h.2.2.2⟩
    rcases h.1 with h1 | ⟨o, h1⟩
    · exact .inl h1
    · exact .inr ⟨o, f.1 a _ h1 fun m => by obtain ⟨xs, e⟩ := w a m; rw [h1] at e; cases e⟩
theorem ok_frL {W : List Addr} (f : Fr W H H') (w : Wr W H) : ∀ (xs : List A), okL K H xs → (∀ p ∈ footL xs, p.2 ∉ W) → okL K H' xs
  | [], _, _ => trivial
  | x :: xs, h, d => by
    rw [okL] at h ⊢
    rw [footL] at d
    exact ⟨ok_fr f w x h.1 fun a m => d a (List.mem_append_left _ m), ok_frL f w xs h.2 fun a m => d a (List.mem_append_right _ m)⟩
end
theorem ok_grow (f : Fr [] H H') {x : A} (h : x.ok K H) : x.ok K H' := ok_fr f (by intro a m; cases m) x h (by simp)
theorem okL_grow (f : Fr [] H H') {xs : List A} (h : okL K H xs) : okL K H' xs := ok_frL f (by intro a m; cases m) xs h (by simp)
mutual
/-- what is owned is there; what may be written holds a list -/
theorem foot_at : ∀ (x : A), x.ok K H → ∀ p ∈ x.foot, H p.2 ≠ none ∧ (p.1 = true → ∃ xs, H p.2 = some (.lst xs))
  | .no, _, a, m => by simp [A.foot] at m
  | .non, _, a, m => by simp [A.foot] at m
  | .bl _, _, a, m => by simp [A.foot] at m
  | .int _, _, a, m => by simp [A.foot] at m
  | .str _, _, a, m => by simp [A.foot] at m
  | .kol _ _, _, a, m => by simp [A.foot] at m
  | .rol b xs, h, a, m => by
    rw [A.ok] at h
    have e : a = (false, b) := by simpa [A.foot] using m
    subst e
    refine ⟨?_, fun z => by cases z⟩
    show H b ≠ none
    rcases h.1 with h1 | ⟨o, h1⟩ <;> rw [h1] <;> simp
  | .tup b xs, h, a, m => by
    rw [A.ok] at h
    exact footL_at xs h.2.2 a (by simpa [A.foot] using m)
  | .lst b xs, h, a, m => by
    rw [A.ok] at h
    rw [A.foot] at m
    rcases List.mem_cons.mp m with e | m
    · subst e
      exact ⟨by show H b ≠ none; rw [h.1]; simp, fun _ => ⟨_, h.1⟩⟩
    · exact footL_at xs h.2.2 a m
theorem footL_at : ∀ (xs : List A), okL K H xs → ∀ p ∈ footL xs, H p.2 ≠ none ∧ (p.1 = true → ∃ xs, H p.2 = some (.lst xs))
  | [], _, a, m => by simp [footL] at m
  | x :: xs, h, a, m => by
    rw [okL] at h
    rw [footL] at m
    rcases List.mem_append.mp m with m | m
    · exact foot_at x h.1 a m
    · exact footL_at xs h.2 a m
end
end

/-! ### values that own their parts, each part once -/
structure Good (K : PySem.W.Frag) (H : Hp) (Γ : List A) : Prop where
  ok : okL K H Γ
  nd : ((footL Γ).map (·.2)).Nodup
theorem Good.wr {K : PySem.W.Frag} {H : Hp} {Γ : List A} (g : Good K H Γ) : Wr (wrL Γ) H := fun a m => (footL_at Γ g.ok _ (mem_wrL.mp m)).2 rfl
structure Stp (K : PySem.W.Frag) (W : List Addr) (Γ : List A) (H : Hp) (Γ' : List A) (H' : Hp) : Prop where
  good : Good K H' Γ'
  fr : Fr W H H'
  ft : ∀ p ∈ footL Γ', p ∈ footL Γ ∨ H p.2 = none
section
variable {K : PySem.W.Frag} {W W' : List Addr} {Γ Γ' Γ'' Δ : List A} {H H' H'' : Hp}
theorem Stp.refl (g : Good K H Γ) : Stp K W Γ H Γ H := ⟨g, .refl, fun _ m => .inl m⟩
theorem Stp.mono (s : Stp K W Γ H Γ' H') (h : ∀ a ∈ W, a ∈ W') : Stp K W' Γ H Γ' H' := ⟨s.good, s.fr.mono h, s.ft⟩
theorem Stp.wsub (s : Stp K W Γ H Γ' H') : ∀ a ∈ wrL Γ', a ∈ wrL Γ ∨ H a = none := fun a m => (s.ft _ (mem_wrL.mp m)).imp mem_wrL.mpr id
theorem Stp.trans (s : Stp K W Γ H Γ' H') (t : Stp K W' Γ' H' Γ'' H'') (h : ∀ a ∈ W', a ∈ W ∨ H a = none) : Stp K W Γ H Γ'' H'' where
  good := t.good
  fr := s.fr.trans t.fr h
  ft := fun p m => by
    rcases t.ft p m with q | q
    · exact s.ft p q
    · cases e : H p.2 with
      | none => exact .inr rfl
      | some o => exact absurd q (s.fr.2 p.2 (by rw [e]; simp))
/-- what is not touched stays beside -/
theorem Stp.frame (g : Good K H (Δ ++ Γ)) (s : Stp K W Γ H Γ' H') (hw : ∀ a ∈ W, a ∈ wrL Γ) : Stp K W (Δ ++ Γ) H (Δ ++ Γ') H' := by
  have go := okL_append.mp g.ok
  have gn := g.nd
  rw [footL_append, List.map_append, List.nodup_append] at gn
  have wr : Wr W H := fun a m => (footL_at Γ go.2 _ (mem_wrL.mp (hw a m))).2 rfl
  have dW : ∀ p ∈ footL Δ, p.2 ∉ W := fun p m n => gn.2.2 p.2 (List.mem_map_of_mem m) p.2 (List.mem_map.mpr ⟨(true, p.2), mem_wrL.mp (hw _ n), rfl⟩) rfl
  refine ⟨⟨okL_append.mpr ⟨ok_frL s.fr wr Δ go.1 dW, s.good.ok⟩, ?_⟩, s.fr, ?_⟩
  · rw [footL_append, List.map_append, List.nodup_append]
    refine ⟨gn.1, s.good.nd, fun a m b n e => ?_⟩
    subst e
    obtain ⟨p, mp, rfl⟩ := List.mem_map.mp m
    obtain ⟨q, mq, e⟩ := List.mem_map.mp n
    rcases s.ft q mq with z | z
    · exact gn.2.2 p.2 m p.2 (List.mem_map.mpr ⟨q, z, e⟩) rfl
    · rw [e] at z
      exact (footL_at Δ go.1 p mp).1 z
  · intro a m
    rw [footL_append] at m ⊢
    rcases List.mem_append.mp m with m | m
    · exact .inl (List.mem_append_left _ m)
    · exact (s.ft a m).imp (List.mem_append_right _) id
/-- the same parts in another order, or fewer -/
theorem Good.sub (g : Good K H Γ) (ho : okL K H Γ') (hf : ∃ l, (footL Γ).Perm (footL Γ' ++ l)) : Good K H Γ' := by
  obtain ⟨l, p⟩ := hf
  have n := (p.map (·.2)).nodup_iff.mp g.nd
  rw [List.map_append] at n
  exact ⟨ho, (List.nodup_append.mp n).1⟩
theorem Stp.sub (s : Stp K W Γ H Γ' H') (ho : okL K H' Γ'') (hf : ∃ l, (footL Γ').Perm (footL Γ'' ++ l)) : Stp K W Γ H Γ'' H' :=
  ⟨s.good.sub ho hf, s.fr, fun a m => s.ft a (by obtain ⟨l, p⟩ := hf; exact p.mem_iff.mpr (List.mem_append_left _ m))⟩
theorem Good.tail {x : A} (g : Good K H (x :: Γ)) : Good K H Γ :=
  g.sub g.ok.2 ⟨x.foot, by rw [footL]; exact List.perm_append_comm⟩
theorem Good.right (g : Good K H (Δ ++ Γ)) : Good K H Γ :=
  g.sub (okL_append.mp g.ok).2 ⟨footL Δ, by rw [footL_append]; exact List.perm_append_comm⟩
theorem Stp.right (s : Stp K W Γ H (Δ ++ Γ') H') : Stp K W Γ H Γ' H' :=
  s.sub (okL_append.mp s.good.ok).2 ⟨footL Δ, by rw [footL_append]; exact List.perm_append_comm⟩
/-- a new value beside: what it owns is new -/
theorem Good.new {w : A} (g : Good K H Γ) (f : Fr [] H H') (ho : w.ok K H') (hn : (w.foot.map (·.2)).Nodup) (hf : ∀ p ∈ w.foot, H p.2 = none) : Good K H' (w :: Γ) := by
  refine ⟨⟨ho, okL_grow f g.ok⟩, ?_⟩
  rw [footL, List.map_append, List.nodup_append]
  refine ⟨hn, g.nd, fun a m b n e => ?_⟩
  subst e
  obtain ⟨p, mp, rfl⟩ := List.mem_map.mp m
  obtain ⟨q, mq, e⟩ := List.mem_map.mp n
  exact (footL_at Γ g.ok q mq).1 (by rw [e]; exact hf p mp)
theorem Stp.new {w : A} (s : Stp K W Γ H Γ' H') (f : Fr [] H' H'') (ho : w.ok K H'') (hn : (w.foot.map (·.2)).Nodup) (hf : ∀ p ∈ w.foot, H' p.2 = none) : Stp K W Γ H (w :: Γ') H'' :=
  s.trans (W' := []) ⟨s.good.new f ho hn hf, f, fun a m => by
    rw [footL] at m
    exact (List.mem_append.mp m).elim (fun m => .inr (hf a m)) .inl⟩ (by simp)
/-- a value that owns nothing beside -/
theorem Good.imm {w : A} (g : Good K H Γ) (ho : w.ok K H) (hi : w.er.imm = true) : Good K H (w :: Γ) :=
  g.new .refl ho (by rw [imm_foot w hi]; exact List.nodup_nil) (by rw [imm_foot w hi]; simp)
theorem Stp.imm {w : A} (s : Stp K W Γ H Γ' H') (ho : w.ok K H') (hi : w.er.imm = true) : Stp K W Γ H (w :: Γ') H' :=
  s.new .refl ho (by rw [imm_foot w hi]; exact List.nodup_nil) (by rw [imm_foot w hi]; simp)
end
end Ev
end

section
set_option Elab.async false
set_option linter.all false
set_option maxRecDepth 100000
/-! EvB2: the evaluator's answers as readings of the hand layer. -/
namespace Ev
open PySem L2

def R.sat {α : Type} (r : R α) (P : α → Env → Prop) (E : Ex → Env → Prop) : Prop := match r with
  | .ok a ρ => P a ρ
  | .rz x ρ => E x ρ
  | .st => False
section
variable {α β : Type} {r : R α} {f : α → Env → R β} {P Q : β → Env → Prop} {E E' : Ex → Env → Prop}
theorem sat_bind : (r.bind f).sat P E ↔ r.sat (fun a ρ => (f a ρ).sat P E) E := by
  cases r <;> rfl
theorem sat_mono {r : R β} (h : r.sat P E) (hP : ∀ a ρ, P a ρ → Q a ρ) (hE : ∀ x ρ, E x ρ → E' x ρ) : r.sat Q E' := by
  cases r with
  | ok a ρ => exact hP _ _ h
  | rz x ρ => exact hE _ _ h
  | st => exact h
theorem sat_opt {o : Option α} {g : α → R β} : (opt o g).sat P E ↔ ∃ a, o = some a ∧ (g a).sat P E := by
  cases o with
  | none => simp [opt, R.sat]
  | some a => simp [opt]
theorem sat_ifOk {b : Bool} {r : R β} : (ifOk b r).sat P E ↔ b = true ∧ r.sat P E := by
  cases b <;> simp [ifOk, R.sat]
end

/-- slots and values -/
structure Mt (σ : St) (α : List A) : Prop where
  len : σ.length = α.length
  at_ : ∀ (i : Nat) (x : A), α[i]? = some x → x = A.no ∨ σ[i]? = some (some x.val)
def Wof (q : Bool) (α : List A) : List Addr := if q = true then [] else wrL α
theorem Wof_sub {q : Bool} {α : List A} : ∀ a ∈ Wof q α, a ∈ wrL α := by
  intro a m
  unfold Wof at m
  split at m
  · cases m
  · exact m
theorem rd_er {α : List A} {i : Nat} {d : D} (h : rd (erL α) i = some d) : ∃ x, α[i]? = some x ∧ x.er = d ∧ x ≠ .no := by
  unfold rd at h
  rw [erL_map, List.getElem?_map] at h
  cases e : α[i]? with
  | none => rw [e] at h; simp at h
  | some x =>
    rw [e] at h
    cases x <;> simp [A.er] at h <;> exact ⟨_, rfl, by simpa [A.er] using h, by simp⟩

/-- what the code stands in: an exception that leaves is told by XR, wished by W -/
abbrev XRel := Ex → Value → Option Addr → Hp → Prop
section
variable (K : PySem.W.Frag) (gl : Nat → Option D) (call : Nat → List D → R D) (XR : XRel) (W : WX)
def EX (σ : St) (α : List A) (H : Hp) (x : Ex) (ρ : Env) : Prop := ∀ cls dd α' H', XR x cls dd H' → erL α' = ρ → Mt σ α' → Stp K (wrL α) α H α' H' → W cls dd σ H'
def own (e : E) (x : A) : List A := if e.temp = true then [x] else []
def tV (e : E) : TE := fun σ H Q => ∃ α, Mt σ α ∧ Good K H α ∧
  (evM gl call e .v (erL α)).sat (fun d ρ => ∀ x α' H', x.er = d → erL α' = ρ → Mt σ α' → Stp K (Wof e.quiet α) α H (x :: α') H' → Q x.val H') (EX K XR W σ α H)
def tB (e : E) : TE := fun σ H Q => ∃ α, Mt σ α ∧ Good K H α ∧
  (evM gl call e .b (erL α)).sat (fun d ρ => ∀ x α' H', x.er = d → erL α' = ρ → Mt σ α' → Stp K (Wof e.quiet α) α H (own e x ++ α') H' → x.ok K H' → Q x.val H') (EX K XR W σ α H)
def tT (e : E) : TT := fun σ H Q => ∃ α, Mt σ α ∧ Good K H α ∧
  (evM gl call e .t (erL α)).sat (fun d ρ => ∀ α' H', erL α' = ρ → Mt σ α' → Stp K (Wof e.quiet α) α H α' H' → Q d.isT H') (EX K XR W σ α H)
end
structure SE (X : Cx) (gl : Nat → Option D) (call : Nat → List D → R D) (XR : XRel) (W : WX) (e : E) (ex : Expr) : Prop where
  v : PE X ex (tV X.K gl call XR W e)
  b : PE X ex (tB X.K gl call XR W e)
  t : e.testable = true → PT X ex (tT X.K gl call XR W e)

theorem impE {X : Cx} {ex : Expr} {t t' : TE} (h : PE X ex t) (f : ∀ σ H Q, t' σ H Q → t σ H Q) : PE X ex t' :=
  ⟨fun pins s σ H Q I q => h.run pins s σ H Q I (f σ H Q q)⟩
theorem impT {X : Cx} {ex : Expr} {t t' : TT} (h : PT X ex t) (f : ∀ σ H Q, t' σ H Q → t σ H Q) : PT X ex t' :=
  ⟨fun pins s σ H Q I q => h.run pins s σ H Q I (f σ H Q q)⟩
section
variable {K : PySem.W.Frag} {gl : Nat → Option D} {call : Nat → List D → R D} {XR : XRel} {W : WX} {σ : St} {α α1 α2 Γ : List A} {H H1 H2 : Hp}
theorem EX.step (h : ∀ x ρ, EX K XR W σ α H x ρ → EX K XR W σ α H x ρ) : True := trivial
theorem EX.on {q : Bool} (s : Stp K (Wof q α) α H α1 H1) {x : Ex} {ρ : Env} (h : EX K XR W σ α H x ρ) : EX K XR W σ α1 H1 x ρ :=
  fun cls dd α' H' r e m t => h cls dd α' H' r e m ((s.mono Wof_sub).trans t s.wsub)
theorem Stp.seq {qa qb : Bool} (s : Stp K (Wof qa α) α H α1 H1) (t : Stp K (Wof qb α1) α1 H1 Γ H2) : Stp K (Wof (qa && qb) α) α H Γ H2 := by
  refine (s.mono (W' := Wof (qa && qb) α) ?_).trans t ?_
  · intro a m
    unfold Wof at *
    cases qa <;> cases qb <;> simp_all
  · intro a m
    unfold Wof at *
    cases qb with
    | true => simp at m
    | false =>
      simp at m
      rw [Bool.and_false]
      exact s.wsub a m
/-- what was borrowed, or owned, is still there -/
theorem keep {a : E} {x : A} {q : Bool} {W1 : List Addr} {Γ2 : List A} (s1 : Stp K W1 α H (own a x ++ α1) H1) (hx : x.ok K H1) (s2 : Stp K (Wof q α1) α1 H1 Γ2 H2) (n : needs x.er a q = true) : x.ok K H2 := by
  unfold needs at n
  simp only [Bool.or_eq_true] at n
  rcases n with (n | n) | n
  · exact ok_fr s2.fr (fun a m => s1.good.right.wr a (Wof_sub a m)) x hx (by rw [imm_foot x n]; simp)
  · have g := s1.good
    unfold own at g
    rw [if_pos n] at g
    exact (Stp.frame (Δ := [x]) g s2 Wof_sub).good.ok.1
  · unfold Wof at s2
    rw [if_pos n] at s2
    exact ok_grow s2.fr hx
theorem KSq.sq {K : PySem.W.Frag} {H : Hp} {a : Addr} {xs : List V} (h : KSq K H a xs) : SqL K H a xs := h.elim .inr fun z => .inl (.inr z)
theorem A.seqL {K : PySem.W.Frag} {H : Hp} {x : A} {a : Addr} {xs : List A} (h : x.ok K H) (e : x = .lst a xs ∨ x = .rol a xs ∨ x = .kol a xs) : x.val = .ref a ∧ SqL K H a (xs.map A.val) ∧ xs.length ≤ line ∧ okL K H xs := by
  rcases e with e | e | e <;> subst e <;> rw [A.ok] at h
  · exact ⟨rfl, SqL.of h.1, h.2.1, h.2.2⟩
  · exact ⟨rfl, .inl h.1, h.2.1, h.2.2.1⟩
  · exact ⟨rfl, h.1.sq, h.2.1, h.2.2.1⟩
theorem line_eq : line = sizeLine := by rw [sizeLine_eq]; rfl
theorem erL_isEmpty (xs : List A) : (erL xs).isEmpty = xs.isEmpty := by cases xs <;> rfl
theorem map_isEmpty (xs : List A) : (xs.map A.val).isEmpty = xs.isEmpty := by cases xs <;> rfl
theorem truth_ok {K : PySem.W.Frag} {H : Hp} {x : A} {k : Bool} (h : x.er.truth = some k) (ok : x.ok K H) : TruV K x.val H k := by
  cases x with
  | no => simp [A.er, D.truth] at h
  | non => simp [A.er, D.truth] at h; simp [A.val, TruV, h]
  | bl b => simp [A.er, D.truth] at h; simp [A.val, TruV, h]
  | int i => simp only [A.er, D.truth, Option.some.injEq] at h; simp only [A.val, TruV, h]
  | str s =>
    simp only [A.er, D.truth] at h
    split at h
    · rename_i hl
      simp only [Option.some.injEq] at h
      refine ⟨by rw [← line_eq]; exact hl, ?_⟩
      rw [← h, Bool.eq_iff_iff]
      simp
    · cases h
  | tup a xs =>
    rw [A.ok] at ok
    simp only [A.er, D.truth, Option.some.injEq, erL_isEmpty] at h
    exact .inr (.inl ⟨_, ok.1, by rw [map_isEmpty, h]⟩)
  | lst a xs =>
    simp only [A.er, D.truth, Option.some.injEq, erL_isEmpty] at h
    exact .inl ⟨_, (A.seqL ok (.inl rfl)).2.1, by rw [map_isEmpty, h]⟩
  | rol a xs =>
    simp only [A.er, D.truth, Option.some.injEq, erL_isEmpty] at h
    exact .inl ⟨_, (A.seqL ok (.inr (.inl rfl))).2.1, by rw [map_isEmpty, h]⟩
  | kol a xs =>
    simp only [A.er, D.truth, Option.some.injEq, erL_isEmpty] at h
    exact .inl ⟨_, (A.seqL ok (.inr (.inr rfl))).2.1, by rw [map_isEmpty, h]⟩
theorem SE.temp {X : Cx} {e : E} {ex : Expr} (h : PE X ex (tV X.K gl call XR W e)) (ht : e.temp = true) (hb : ∀ ρ, evM gl call e .b ρ = evM gl call e .v ρ)
    (hm : ∀ ρ, evM gl call e .t ρ = Md.t.tr (evM gl call e .v ρ))
    (he : e.testable = true → ∀ whole, isTrue ex X.env whole = (do let v ← whole; standAt ex.pos; holding [v] (truthy v))) : SE X gl call XR W e ex := by
  have hB : PE X ex (tB X.K gl call XR W e) := by
    refine impE h fun σ H Q q => ?_
    obtain ⟨α, m, g, q⟩ := q
    refine ⟨α, m, g, ?_⟩
    rw [hb] at q
    refine sat_mono q (fun d ρ q x α' H' e1 e2 m' s => ?_) fun _ _ z => z
    exact q x α' H' e1 e2 m' (by unfold own; rw [if_pos ht]; exact s) s.good.ok.1
  refine ⟨h, hB, fun te => impT (pt_truth h (he te)) fun σ H Q q => ?_⟩
  obtain ⟨α, m, g, q⟩ := q
  refine ⟨α, m, g, ?_⟩
  rw [hm] at q
  refine sat_mono (sat_bind.mp q) (fun d ρ q x α' H' e1 e2 m' s => ?_) fun _ _ z => z
  obtain ⟨k, ek, q⟩ := sat_opt.mp q
  refine ⟨k, truth_ok (by rw [e1]; exact ek) s.good.ok.1, ?_⟩
  exact q α' H' e2 m' (Stp.right (Δ := [x]) s)
end
end Ev
end

section
set_option Elab.async false
set_option linter.all false
set_option maxRecDepth 100000
/-! EvB3: operators. -/
namespace Ev
open PySem L2 PyProof.Rows

theorem er_no {x : A} (h : x.er = .no) : x = .no := by cases x <;> simp [A.er] at h <;> rfl
theorem er_non {x : A} (h : x.er = .non) : x = .non := by cases x <;> simp [A.er] at h <;> rfl
theorem er_bl {x : A} {b : Bool} (h : x.er = .bl b) : x = .bl b := by cases x <;> simp [A.er] at h; subst h; rfl
theorem er_int {x : A} {i : Int} (h : x.er = .int i) : x = .int i := by cases x <;> simp [A.er] at h; subst h; rfl
theorem er_str {x : A} {s : Str} (h : x.er = .str s) : x = .str s := by cases x <;> simp [A.er] at h; subst h; rfl
theorem er_tup {x : A} {ds : List D} (h : x.er = .tup ds) : ∃ a xs, x = .tup a xs ∧ erL xs = ds := by cases x <;> simp [A.er] at h; exact ⟨_, _, rfl, h⟩
theorem er_lst {x : A} {ds : List D} (h : x.er = .lst ds) : ∃ a xs, x = .lst a xs ∧ erL xs = ds := by cases x <;> simp [A.er] at h; exact ⟨_, _, rfl, h⟩
theorem er_rol {x : A} {k : Bool} {ds : List D} (h : x.er = .rol k ds) : ∃ a xs, (x = .rol a xs ∨ x = .kol a xs) ∧ erL xs = ds := by
  cases x <;> simp [A.er] at h
  · exact ⟨_, _, .inl rfl, h.2⟩
  · exact ⟨_, _, .inr rfl, h.2⟩

theorem tuple_mulOne (l : Addr) (items : Array Value) (n : Nat) (sl : Array (Option Value)) (dd : Option Addr) (u : Tok) :
    Meets (Builtin.«tuple.__mul__» ⟨[.ref l, .int 1 u], []⟩) (fun _ R s => s.heap.get? l = some { cls := .type "tuple", dict := dd, data := .seq items n, slots := sl } ∧
      R (.ok (.ret (Value.ref l))) s) :=
  .of_wp fun prog w A R s h => by
    obtain ⟨hp, g, d, tk, os⟩ := s
    obtain ⟨hl, h⟩ := h
    have f1 := AutoSeq1.idx_int
    wp_walk using wpAny_loadPart' hl
    exact ⟨_, rfl, h⟩
/-- t * 1 is t -/
def rRep1 (K : PySem.W.Frag) : R2 := fun x y H Q => ∃ l xs, x = .ref l ∧ y = .int 1 ∧ SqT K H l xs ∧ Q (.ref l) H
theorem op_rep1 {X : Cx} : OpR X (binaryOp .Mult) (rRep1 X.K) := by
  intro pins s σ H x y v u Q I rx ry h
  obtain ⟨l, xs, rfl, rfl, hT, q⟩ := h
  cases rx
  obtain ⟨t, rfl⟩ := ry
  obtain ⟨its, r, ⟨⟨cls, dd, data, sl⟩, ho, hc, n, hd⟩, hs⟩ := I.tuple hT
  simp only at hc hd
  subst hc hd
  refine wpAny_binaryOp_repeat_ref (T := "tuple") (U := "int") (by decide) ⟨_, ho, rfl⟩ (fun s' => typeIs_int s' 1 t) noFill_tuple_mul F.fills_int_mul F.slot_int_rmul repeat_tuple F.slot_int_index.lookup
    (call_meets F.slot_int_rmul (typeIs_int s 1 t) F.entry_int_rmul (F.args_int_rmul_2 _ _) (int_rmul_tuple 1 t l its.toArray n dd sl)
      ⟨ho, rfl, ⟨_, ho, rfl⟩, call_meets F.slot_tuple_mul ⟨_, ho, rfl⟩ F.entry_tuple_mul (F.args_tuple_mul_2 _ _) (tuple_mulOne l its.toArray n sl dd t) ⟨ho, ?_⟩⟩)
  exact ⟨.ref l, H, I, rfl, q⟩
/-- what a rule gives: a new value, or one that owns nothing -/
def Out (K : PySem.W.Frag) (H : Hp) (z : D) (Q : VK) : Prop :=
  ∀ (w : A) (H' : Hp), w.er = z → Fr [] H H' → w.ok K H' → (w.foot.map (·.2)).Nodup → (∀ p ∈ w.foot, H p.2 = none) → Q w.val H'
section
variable {K : PySem.W.Frag} {H : Hp} {z : D} {Q : VK}
theorem Out.int {i : Int} (q : Out K H (.int i) Q) : Q (.int i) H := q (.int i) H rfl .refl trivial List.nodup_nil (by simp [A.foot])
theorem Out.bl {b : Bool} (q : Out K H (.bl b) Q) : Q (.bl b) H := q (.bl b) H rfl .refl trivial List.nodup_nil (by simp [A.foot])
theorem Out.non (q : Out K H .non Q) : Q .non H := q .non H rfl .refl trivial List.nodup_nil (by simp [A.foot])
theorem Out.str {s : Str} (q : Out K H (.str s) Q) (h : PySem.PyData.strOk s = true) : Q (.str s) H := q (.str s) H rfl .refl h List.nodup_nil (by simp [A.foot])
theorem Out.imm {x : A} (q : Out K H x.er Q) (h : x.ok K H) (hi : x.er.imm = true) : Q x.val H :=
  q x H rfl .refl h (by rw [imm_foot x hi]; exact List.nodup_nil) (by rw [imm_foot x hi]; simp)
theorem Out.tup {xs : List A} {p : Addr} (q : Out K H (.tup (erL xs)) Q) (hp : H p = none) (hi : D.immL (erL xs) = true) (ho : okL K H xs) (hl : xs.length ≤ line) : Q (.ref p) (upd H p (.tup (xs.map A.val))) := by
  have i := imm_footL xs hi
  exact q (.tup p xs) _ rfl (.new hp) ⟨SqT.of upd_same, hl, okL_grow (.new hp) ho⟩ (by simp [A.foot, i]) (by simp [A.foot, i])
theorem Out.lst {xs : List A} {p : Addr} (q : Out K H (.lst (erL xs)) Q) (hp : H p = none) (hi : D.immL (erL xs) = true) (ho : okL K H xs) (hl : xs.length ≤ line) : Q (.ref p) (upd H p (.lst (xs.map A.val))) := by
  have i := imm_footL xs hi
  exact q (.lst p xs) _ rfl (.new hp) ⟨upd_same, hl, okL_grow (.new hp) ho⟩ (by simp [A.foot, i]) (by simp [A.foot, i, hp])
end
theorem erL_append (xs ys : List A) : erL (xs ++ ys) = erL xs ++ erL ys := by simp [erL_map]
theorem immL_append (xs ys : List D) : D.immL (xs ++ ys) = (D.immL xs && D.immL ys) := by
  induction xs with
  | nil => simp [D.immL]
  | cons x xs ih => simp [D.immL, ih, Bool.and_assoc]
theorem immL_iff {xs : List D} : D.immL xs = true ↔ ∀ x ∈ xs, x.imm = true := by
  induction xs with
  | nil => simp [D.immL]
  | cons x xs ih => simp [D.immL, ih]
theorem strOk_append {x y : Str} (h1 : PySem.PyData.strOk x = true) (h2 : PySem.PyData.strOk y = true) : PySem.PyData.strOk (x ++ y) = true := by
  obtain ⟨x⟩ := x
  obtain ⟨y⟩ := y
  show ((x ++ y).all _) = true
  rw [Array.all_append, Bool.and_eq_true]
  exact ⟨h1, h2⟩
/-- a text, so many times -/
def rMulS : R2 := fun x y H Q => ∃ (z : Str) (k : Int), x = .str z ∧ y = .int k ∧ 1 ≤ k ∧ k ≤ 1000 ∧ z.length ≤ 1000 ∧ Q (.str (strRep z k.toNat)) H
theorem strRep_1 (z : Str) : strRep z 1 = z := by
  unfold strRep
  show (⟨#[] ++ z.cps⟩ : Str) = z
  rw [Array.empty_append]
theorem strRep_0 {z : Str} (h : z.cps = #[]) (k : Nat) : strRep z k = z := by
  have : ∀ (k : Nat) (a : Array Nat), (List.replicate k (#[] : Array Nat)).foldl (· ++ ·) a = a := by
    intro k
    induction k with
    | zero => intro a; rfl
    | succ k ih => intro a; rw [List.replicate_succ, List.foldl_cons, Array.append_empty, ih]
  unfold strRep
  cases z with
  | mk c =>
    cases h
    rw [this]
theorem op_mulS {X : Cx} : OpR X (binaryOp .Mult) rMulS := by
  intro pins s σ H x y v u Q I rx ry h
  obtain ⟨z, k, rfl, rfl, h1, h2, h3, q⟩ := h
  obtain ⟨t, rfl⟩ := rx
  obtain ⟨t', rfl⟩ := ry
  have nk : ¬ k < 1 := by omega
  refine PySem.P.mul_str ?_ (fun _ _ => ?_) (fun _ _ => ?_) ?_
  · have a : ¬ k < -(2 ^ 63 : Int) := by omega
    have b : ¬ k ≥ 2 ^ 63 := by omega
    rw [decide_eq_false a, decide_eq_false b]; rfl
  · have : (1000 : Int) ≤ (2 ^ 63 - 1) / k := by
      rw [Int.le_ediv_iff_mul_le (by omega)]
      omega
    omega
  · show PySem.Builtin.Str.tooLong (z.length * k.toNat) = false
    have : z.length * k.toNat ≤ 1000 * 1000 := Nat.mul_le_mul h3 (by omega)
    unfold PySem.Builtin.Str.tooLong
    rw [decide_eq_false]
    rw [sizeLine_eq]
    omega
  · rw [if_neg nk]
    split
    · rename_i hc
      have e : strRep z k.toNat = z := by
        simp only [Bool.or_eq_true, beq_iff_eq] at hc
        rcases hc with hc | hc
        · subst hc; exact strRep_1 z
        · exact strRep_0 (Array.eq_empty_of_size_eq_zero hc) _
      rw [e] at q
      exact ⟨.str z, H, I.tok _, ⟨_, rfl⟩, q⟩
    · refine ⟨?_, .str (strRep z k.toNat), H, I.tok _, ⟨_, rfl⟩, q⟩
      have len : ∀ (n : Nat) (a : Array Nat), ((List.replicate n z.cps).foldl (· ++ ·) a).size = a.size + n * z.cps.size := by
        intro n
        induction n with
        | zero => intro a; simp
        | succ n ih => intro a; rw [List.replicate_succ, List.foldl_cons, ih, Array.size_append, Nat.succ_mul]; omega
      have e := len k.toNat #[]
      have h3 : z.cps.size ≤ 1000 := h3
      have : k.toNat * z.cps.size ≤ 1000 * 1000 := Nat.mul_le_mul (by omega) h3
      show ((List.replicate k.toNat z.cps).foldl (· ++ ·) #[]).size ≤ sizeLine
      rw [e, sizeLine_eq, List.size_toArray]
      simp only [List.length_nil]
      omega
theorem strRep_ok {z : Str} (h : PySem.PyData.strOk z = true) (k : Nat) : PySem.PyData.strOk (strRep z k) = true := by
  have : ∀ (k : Nat) (a : Array Nat), PySem.PyData.strOk ⟨a⟩ = true → PySem.PyData.strOk ⟨(List.replicate k z.cps).foldl (· ++ ·) a⟩ = true := by
    intro k
    induction k with
    | zero => intro a ha; exact ha
    | succ k ih => intro a ha; rw [List.replicate_succ, List.foldl_cons]; exact ih _ (strOk_append (x := ⟨a⟩) (y := z) ha h)
  exact this k #[] (by show ((#[] : Array Nat).all _) = true; simp)
def Op2.syn : Op2 → Operator
  | .add => .Add | .sub => .Sub | .mul => .Mult | .fdiv => .FloorDiv | .mod => .Mod | .pow => .Pow
  | .shl => .LShift | .shr => .RShift | .band => .BitAnd | .bor => .BitOr | .bxor => .BitXor
def Op2.r (K : PySem.W.Frag) : Op2 → R2
  | .add => fun x y H Q => (rI0 fun i j => .int (i + j)) x y H Q ∨ (fun x y H Q => ∃ i j, x = .str i ∧ y = .str j ∧ i.length + j.length ≤ sizeLine ∧ Q (.str (i ++ j)) H : R2) x y H Q ∨ rCatA K x y H Q ∨ rCat x y H Q
  | .sub => rI0 fun i j => .int (i - j)
  | .mul => fun x y H Q => (rI CMul fun i j => .int (i * j)) x y H Q ∨ rRepT K x y H Q ∨ rRep x y H Q ∨ rRep1 K x y H Q ∨ rMulS x y H Q
  | .fdiv => rI CDivN fun i j => .int (i.fdiv j)
  | .mod => rI (fun _ j => j ≠ 0) fun i j => .int (i.fmod j)
  | .pow => rI CPow fun i j => .int (i ^ j.toNat)
  | .shl => rI CPow fun i j => .int (i * 2 ^ j.toNat)
  | .shr => rI (fun _ j => 0 ≤ j) fun i j => .int (i / 2 ^ j.toNat)
  | _ => fun _ _ _ _ => False
theorem Op2.is {X : Cx} (o : Op2) : OpR X (binaryOp o.syn) (o.r X.K) := by
  cases o
  · exact op_add.or (op_add_str.or (op_catA.or op_cat))
  · exact op_sub
  · exact op_mul.or (op_repT.or (op_rep.or (op_rep1.or op_mulS)))
  · exact op_fdivN
  · exact op_modN
  · exact op_pow
  · exact op_shl
  · exact op_shr
  all_goals exact fun _ _ _ _ _ _ _ _ _ _ _ _ h => h.elim
theorem map_rep {α β : Type} (f : α → β) (n : Nat) (xs : List α) : (List.replicate n xs).flatten.map f = (List.replicate n (xs.map f)).flatten := by
  induction n with
  | zero => rfl
  | succ n ih => simp [List.replicate_succ, ih]
theorem rep_one {α : Type} (n : Nat) (x : α) : (List.replicate n [x]).flatten = List.replicate n x := by
  induction n with
  | zero => rfl
  | succ n ih => simp [List.replicate_succ, ih]
theorem Op2.ok {K : PySem.W.Frag} {H : Hp} {z : D} {Q : VK} (o : Op2) {x y : A} (h : o.run x.er y.er = some z) (hx : x.ok K H) (hy : y.ok K H) (q : Out K H z Q) : o.r K x.val y.val H Q := by
  unfold Op2.run at h
  split at h
  · rename_i e1 e2
    rw [er_int e1, er_int e2]
    cases h
    exact .inl ⟨_, _, rfl, rfl, q.int⟩
  · rename_i e1 e2
    have hx' := hx
    have hy' := hy
    rw [er_str e1] at hx' ⊢
    rw [er_str e2] at hy' ⊢
    split at h
    · rename_i hl
      cases h
      exact .inr (.inl ⟨_, _, rfl, rfl, by rw [← line_eq]; exact hl, q.str (strOk_append hx' hy')⟩)
    · cases h
  · rename_i e1 e2
    obtain ⟨a, xs, rfl, rfl⟩ := er_tup e1
    obtain ⟨b, ys, rfl, rfl⟩ := er_tup e2
    split at h
    · rename_i hl
      cases h
      have hx' := hx
      have hy' := hy
      rw [A.ok] at hx' hy'
      rw [← erL_append] at q
      rw [erL_length, erL_length] at hl
      refine .inr (.inr (.inl ⟨a, b, _, _, rfl, rfl, hx'.1, hy'.1, by rw [List.length_map, List.length_map, ← line_eq]; exact hl.1, fun e => ?_, fun _ e => ?_, fun _ _ p hp => ?_⟩))
      · have e : xs = [] := List.map_eq_nil_iff.mp e
        subst e
        exact Out.imm (x := .tup b ys) q hy (by simp [A.er, D.imm, hl.2.2])
      · have e : ys = [] := List.map_eq_nil_iff.mp e
        subst e
        rw [List.append_nil] at q
        exact Out.imm (x := .tup a xs) q hx (by simp [A.er, D.imm, hl.2.1])
      · rw [← List.map_append]
        exact q.tup hp (by rw [erL_append, immL_append, hl.2.1, hl.2.2]; rfl) (okL_append.mpr ⟨hx'.2.2, hy'.2.2⟩) (by rw [List.length_append]; exact hl.1)
    · cases h
  · rename_i e1 e2
    obtain ⟨a, xs, rfl, rfl⟩ := er_lst e1
    obtain ⟨b, ys, rfl, rfl⟩ := er_lst e2
    split at h
    · rename_i hl
      cases h
      have hx' := hx
      have hy' := hy
      rw [A.ok] at hx' hy'
      rw [← erL_append] at q
      rw [erL_length, erL_length] at hl
      refine .inr (.inr (.inr ⟨a, b, _, _, rfl, rfl, hx'.1, hy'.1, by rw [List.length_map, List.length_map, ← line_eq]; exact hl.1, fun p hp => ?_⟩))
      rw [← List.map_append]
      exact q.lst hp (by rw [erL_append, immL_append, hl.2.1, hl.2.2]; rfl) (okL_append.mpr ⟨hx'.2.2, hy'.2.2⟩) (by rw [List.length_append]; exact hl.1)
    · cases h
  · rename_i e1 e2
    rw [er_int e1, er_int e2]
    cases h
    exact ⟨_, _, rfl, rfl, q.int⟩
  · rename_i e1 e2
    rw [er_int e1, er_int e2]
    split at h
    · rename_i hl
      cases h
      refine .inl ⟨_, _, rfl, rfl, ?_, q.int⟩
      unfold CMul
      omega
    · cases h
  · rename_i d k e1 e2
    obtain ⟨a, xs, rfl, e⟩ := er_tup e1
    match xs, e with
    | [v], e =>
      have ev : v.er = d := by simpa [erL] using e
      subst ev
      rw [er_int e2]
      split at h
      · rename_i hl
        cases h
        have hx' := hx
        rw [A.ok] at hx'
        by_cases k1 : k = 1
        · subst k1
          exact .inr (.inr (.inr (.inl ⟨a, _, rfl, rfl, hx'.1, Out.imm (x := .tup a [v]) q hx (by simp [A.er, erL, D.imm, D.immL, hl.2.2])⟩)))
        · refine .inr (.inl ⟨a, k, _, rfl, rfl, hx'.1, by simp, by omega, hl.2.1, by simp, fun p hp => ?_⟩)
          rw [List.map_cons, List.map_nil, rep_one]
          have e3 : List.replicate k.toNat v.er = erL (List.replicate k.toNat v) := by rw [erL_map, List.map_replicate]
          rw [e3] at q
          rw [← List.map_replicate]
          refine q.tup hp ?_ ?_ ?_
          · rw [← e3, immL_iff]
            intro x hx
            rw [List.eq_of_mem_replicate hx]
            exact hl.2.2
          · rw [okL_iff]
            intro x hx
            rw [List.eq_of_mem_replicate hx]
            exact hx'.2.2.1
          · rw [List.length_replicate]
            have : line = 16777216 := rfl
            omega
      · cases h
    | [], e => simp [erL] at e
    | _ :: _ :: _, e => simp [erL] at e
  · rename_i e1 e2
    have hx' := hx
    rw [er_str e1] at hx' ⊢
    rw [er_int e2]
    split at h
    · rename_i hl
      cases h
      exact .inr (.inr (.inr (.inr ⟨_, _, rfl, rfl, hl.1, hl.2.1, hl.2.2, q.str (strRep_ok hx' _)⟩)))
    · cases h
  · rename_i e1 e2
    obtain ⟨a, xs, rfl, rfl⟩ := er_lst e1
    rw [er_int e2]
    split at h
    · rename_i k hl
      cases h
      have hx' := hx
      rw [A.ok] at hx'
      rw [erL_length] at hl
      refine .inr (.inr (.inl ⟨a, _, _, rfl, rfl, hx'.1, by omega, by omega, by rw [List.length_map, ← line_eq]; exact hl.2.2.1, fun p hp => ?_⟩))
      rw [← map_rep]
      have e3 : (List.replicate k.toNat (erL xs)).flatten = erL (List.replicate k.toNat xs).flatten := by rw [erL_map, erL_map, map_rep]
      rw [e3] at q
      refine q.lst hp ?_ ?_ ?_
      · rw [← e3, immL_iff]
        intro x hx
        obtain ⟨l, m1, m2⟩ := List.mem_flatten.mp hx
        rw [List.eq_of_mem_replicate m1] at m2
        exact immL_iff.mp hl.2.2.2 x m2
      · rw [okL_iff]
        intro x hx
        obtain ⟨l, m1, m2⟩ := List.mem_flatten.mp hx
        rw [List.eq_of_mem_replicate m1] at m2
        exact okL_iff.mp hx'.2.2 x m2
      · rw [PyProof.Rows.lm_len_rep_flat, Nat.mul_comm]; exact hl.2.2.1
    · cases h
  · rename_i e1 e2
    rw [er_int e1, er_int e2]
    split at h
    · rename_i hl
      cases h
      exact ⟨_, _, rfl, rfl, hl, q.int⟩
    · cases h
  · rename_i e1 e2
    rw [er_int e1, er_int e2]
    split at h
    · rename_i hl
      cases h
      exact ⟨_, _, rfl, rfl, hl, q.int⟩
    · cases h
  · rename_i e1 e2
    rw [er_int e1, er_int e2]
    split at h
    · rename_i hl
      cases h
      exact ⟨_, _, rfl, rfl, hl, q.int⟩
    · cases h
  · rename_i e1 e2
    rw [er_int e1, er_int e2]
    split at h
    · rename_i hl
      cases h
      exact ⟨_, _, rfl, rfl, hl, q.int⟩
    · cases h
  · rename_i e1 e2
    rw [er_int e1, er_int e2]
    split at h
    · rename_i hl
      cases h
      exact ⟨_, _, rfl, rfl, hl, q.int⟩
    · cases h
  · cases h
end Ev
end

section
set_option Elab.async false
set_option linter.all false
set_option maxRecDepth 100000
/-! EvB4: comparisons, isinstance, subscripts, slices. -/
namespace Ev
open PySem L2 PyProof.Rows
mutual
/-- data as the library reads them -/
def D.pd : D → PyData
  | .non => .none
  | .bl b => .bool b
  | .int i => .int i
  | .str s => .str s
  | .tup xs => .tuple (D.pdL xs)
  | .lst xs => .list (D.pdL xs)
  | .rol _ xs => .list (D.pdL xs)
  | .no => .none
  | .dct _ _ => .none
def D.pdL : List D → List PyData
  | [] => []
  | x :: xs => x.pd :: D.pdL xs
end
mutual
theorem pd_dep : ∀ d : D, d.pd.depth = d.dep
  | .non => by simp [D.pd, D.dep, PyData.depth]
  | .bl b => by simp [D.pd, D.dep, PyData.depth]
  | .int i => by simp [D.pd, D.dep, PyData.depth]
  | .str s => by simp [D.pd, D.dep, PyData.depth]
  | .tup xs => by simp [D.pd, D.dep, PyData.depth, pd_depL xs]
  | .lst xs => by simp [D.pd, D.dep, PyData.depth, pd_depL xs]
  | .rol _ xs => by simp [D.pd, D.dep, PyData.depth, pd_depL xs]
  | .no => by simp [D.pd, D.dep, PyData.depth]
  | .dct _ _ => by simp [D.pd, D.dep, PyData.depth]
theorem pd_depL : ∀ ds : List D, PyData.depthAll (D.pdL ds) = D.depL ds
  | [] => by simp [D.pdL, D.depL, PyData.depthAll]
  | d :: ds => by simp [D.pdL, D.depL, PyData.depthAll, pd_dep d, pd_depL ds]
end
mutual
theorem pd_eqv : ∀ d e : D, d.cmpb = true → e.cmpb = true → PyData.eqv d.pd e.pd = d.eqv e
  | .no, _, h, _ => by simp [D.cmpb] at h
  | .dct _ _, _, h, _ => by simp [D.cmpb] at h
  | .non, e, _, h => by cases e <;> simp [D.cmpb] at h <;> simp [D.pd, PyData.eqv, D.eqv]
  | .bl b, e, _, h => by cases e <;> simp [D.cmpb] at h <;> simp [D.pd, PyData.eqv, D.eqv]
  | .int i, e, _, h => by cases e <;> simp [D.cmpb] at h <;> simp [D.pd, PyData.eqv, D.eqv]
  | .str s, e, _, h => by cases e <;> simp [D.cmpb] at h <;> simp [D.pd, PyData.eqv, D.eqv]
  | .tup xs, e, h1, h => by
    rw [D.cmpb] at h1
    cases e <;> simp only [D.cmpb, Bool.false_eq_true] at h <;> simp only [D.pd, PyData.eqv, D.eqv]
    exact pd_eqvL xs _ h1 h
  | .lst xs, e, h1, h => by
    rw [D.cmpb] at h1
    cases e <;> simp only [D.cmpb, Bool.false_eq_true] at h <;> simp only [D.pd, PyData.eqv, D.eqv]
    · exact pd_eqvL xs _ h1 h
    · exact pd_eqvL xs _ h1 h
  | .rol _ xs, e, h1, h => by
    rw [D.cmpb] at h1
    cases e <;> simp only [D.cmpb, Bool.false_eq_true] at h <;> simp only [D.pd, PyData.eqv, D.eqv]
    · exact pd_eqvL xs _ h1 h
    · exact pd_eqvL xs _ h1 h
theorem pd_eqvL : ∀ ds es : List D, D.cmpbL ds = true → D.cmpbL es = true → PyData.eqvAll (D.pdL ds) (D.pdL es) = D.eqvL ds es
  | [], [], _, _ => by simp [D.pdL, PyData.eqvAll, D.eqvL]
  | [], _ :: _, _, _ => by simp [D.pdL, PyData.eqvAll, D.eqvL]
  | _ :: _, [], _, _ => by simp [D.pdL, PyData.eqvAll, D.eqvL]
  | d :: ds, e :: es, h1, h2 => by
    rw [D.cmpbL, Bool.and_eq_true] at h1 h2
    simp only [D.pdL, PyData.eqvAll, D.eqvL, pd_eqv d e h1.1 h2.1, pd_eqvL ds es h1.2 h2.2]
end
section
variable {K : PySem.W.Frag} {H : Hp}
mutual
theorem A.dp : ∀ x : A, x.ok K H → x.er.cmpb = true → Dp K H x.val x.er.pd ∧ x.er.pd.canLay0 = true
  | .no, _, h => by simp [A.er, D.cmpb] at h
  | .non, _, _ => ⟨.non, by simp [A.er, D.pd, PyData.canLay0]⟩
  | .bl b, _, _ => ⟨.bl b, by simp [A.er, D.pd, PyData.canLay0]⟩
  | .int i, _, _ => ⟨.int i, by simp [A.er, D.pd, PyData.canLay0]⟩
  | .str s, h, _ => ⟨.str s, by simp only [A.er, D.pd, PyData.canLay0]; exact h⟩
  | .tup a xs, h, c => by
    rw [A.ok] at h
    have := A.dpL xs h.2.2 (by simpa [A.er, D.cmpb] using c)
    exact ⟨.tup h.1 this.1, by simp only [A.er, D.pd, PyData.canLay0]; exact this.2⟩
  | .lst a xs, h, c => by
    rw [A.ok] at h
    have := A.dpL xs h.2.2 (by simpa [A.er, D.cmpb] using c)
    exact ⟨.lst (SqL.of h.1) this.1, by simp only [A.er, D.pd, PyData.canLay0]; exact this.2⟩
  | .rol a xs, h, c => by
    rw [A.ok] at h
    have := A.dpL xs h.2.2.1 (by simpa [A.er, D.cmpb] using c)
    exact ⟨.lst (.inl h.1) this.1, by simp only [A.er, D.pd, PyData.canLay0]; exact this.2⟩
  | .kol a xs, h, c => by
    rw [A.ok] at h
    have := A.dpL xs h.2.2.1 (by simpa [A.er, D.cmpb] using c)
    exact ⟨.lst h.1.sq this.1, by simp only [A.er, D.pd, PyData.canLay0]; exact this.2⟩
theorem A.dpL : ∀ xs : List A, okL K H xs → D.cmpbL (erL xs) = true → DpAll K H (xs.map A.val) (D.pdL (erL xs)) ∧ PyData.canLayAll0 (D.pdL (erL xs)) = true
  | [], _, _ => ⟨.nil, by simp [erL, D.pdL, PyData.canLayAll0]⟩
  | x :: xs, h, c => by
    rw [okL] at h
    rw [erL, D.cmpbL, Bool.and_eq_true] at c
    have h1 := A.dp x h.1 c.1
    have h2 := A.dpL xs h.2 c.2
    exact ⟨.cons h1.1 h2.1, by simp only [erL, D.pdL, PyData.canLayAll0, h1.2, h2.2]; rfl⟩
end
end
section
variable {X : Cx}
def rEqM (K : PySem.W.Frag) (neg : Bool) : R2 := fun x y H Q => ∃ d e, Dp K H x d ∧ Dp K H y e ∧ d.canLay0 = true ∧ e.canLay0 = true ∧ min d.depth e.depth ≤ 64 ∧ Q (.bl (if neg = true then !PyData.eqv d e else PyData.eqv d e)) H
theorem op_eqM (hu : X.A.units + 64 < cLine) : OpR X (compareOp .Eq) (rEqM X.K false) := by
  intro pins s σ H x y v u Q I rx ry h
  obtain ⟨d, e, hd, he, sd, se, hm, q⟩ := h
  obtain ⟨as, r1⟩ := Dp.reads I d x v hd rx
  obtain ⟨bs, r2⟩ := Dp.reads I e y u he ry
  exact SeqAt.compareEq_reads r1 r2 sd se (by omega) ⟨.bl _, H, I, rfl, q⟩
theorem op_neM (hu : X.A.units + 64 < cLine) : OpR X (compareOp .NotEq) (rEqM X.K true) := by
  intro pins s σ H x y v u Q I rx ry h
  obtain ⟨d, e, hd, he, sd, se, hm, q⟩ := h
  obtain ⟨as, r1⟩ := Dp.reads I d x v hd rx
  obtain ⟨bs, r2⟩ := Dp.reads I e y u he ry
  exact SeqAt.compareNe_reads r1 r2 sd se (by omega) ⟨.bl _, H, I, rfl, q⟩
def rMemM (K : PySem.W.Frag) (neg : Bool) : R2 := fun x y H Q => ∃ d ds, Dp K H x d ∧ (Dp K H y (.list ds) ∨ Dp K H y (.tuple ds)) ∧ d.canLay0 = true ∧ PyData.canLayAll0 ds = true ∧ d.depth ≤ 60 ∧
  Q (.bl (if neg = true then !(ds.any fun z => PyData.eqv z d) else ds.any fun z => PyData.eqv z d)) H
theorem op_memM (hu : X.A.units + 64 < cLine) : OpR X (compareOp .In) (rMemM X.K false) := by
  intro pins s σ H x y v u Q I rx ry h
  obtain ⟨d, ds, hd, he, sd, se, hm, q⟩ := h
  obtain ⟨as, r1⟩ := Dp.reads I d x v hd rx
  rcases he with he | he
  · obtain ⟨bs, r2⟩ := Dp.reads I (.list ds) y u he ry
    exact SeqAt.in_list_reads r2 r1 se sd (by have : d.depth ≤ 60 := hm; omega) ⟨.bl _, H, I, rfl, q⟩
  · obtain ⟨bs, r2⟩ := Dp.reads I (.tuple ds) y u he ry
    exact SeqAt.in_tuple_reads r2 r1 se sd (by have : d.depth ≤ 60 := hm; omega) ⟨.bl _, H, I, rfl, q⟩
theorem op_nmemM (hu : X.A.units + 64 < cLine) : OpR X (compareOp .NotIn) (rMemM X.K true) := by
  intro pins s σ H x y v u Q I rx ry h
  obtain ⟨d, ds, hd, he, sd, se, hm, q⟩ := h
  obtain ⟨as, r1⟩ := Dp.reads I d x v hd rx
  rcases he with he | he
  · obtain ⟨bs, r2⟩ := Dp.reads I (.list ds) y u he ry
    exact SeqAt.notIn_list_reads r2 r1 se sd (by have : d.depth ≤ 60 := hm; omega) ⟨.bl _, H, I, rfl, q⟩
  · obtain ⟨bs, r2⟩ := Dp.reads I (.tuple ds) y u he ry
    exact SeqAt.notIn_tuple_reads r2 r1 se sd (by have : d.depth ≤ 60 := hm; omega) ⟨.bl _, H, I, rfl, q⟩
end
theorem memL_pd {x : D} (hx : x.cmpb = true) : ∀ {ys : List D}, D.cmpbL ys = true → ((D.pdL ys).any fun z => PyData.eqv z x.pd) = x.memL ys
  | [], _ => rfl
  | y :: ys, h => by
    rw [D.cmpbL, Bool.and_eq_true] at h
    have ih := memL_pd hx h.2
    unfold D.memL at ih ⊢
    rw [D.pdL, List.any_cons, List.any_cons, ih, pd_eqv y x h.1 hx]
def Cmp.syn : Cmp → CmpOp
  | .eq => .Eq | .ne => .NotEq | .lt => .Lt | .le => .LtE | .gt => .Gt | .ge => .GtE | .is => .Is | .isn => .IsNot | .mem => .In | .nmem => .NotIn
def Cmp.r (K : PySem.W.Frag) : Cmp → R2
  | .eq => rEqM K false
  | .ne => rEqM K true
  | .lt => rI0 fun i j => .bl (decide (i < j))
  | .le => rI0 fun i j => .bl (decide (i ≤ j))
  | .gt => rI0 fun i j => .bl (decide (j < i))
  | .ge => rI0 fun i j => .bl (decide (j ≤ i))
  | .is => fun x y H Q => (fun x y H Q => y = .non ∧ Q (.bl (decide (x = .non))) H : R2) x y H Q ∨ rIsB x y H Q
  | .isn => fun x y H Q => (fun x y H Q => y = .non ∧ Q (.bl (!decide (x = .non))) H : R2) x y H Q ∨ rNotB x y H Q
  | .mem => rMemM K false
  | .nmem => rMemM K true
theorem Cmp.opR {X : Cx} (hu : X.A.units + 64 < cLine) (o : Cmp) : OpR X (compareOp o.syn) (o.r X.K) := by
  cases o
  · exact op_eqM hu
  · exact op_neM hu
  · exact op_lt
  · exact op_le
  · exact op_gt
  · exact op_ge
  · exact op_isN.or op_isBl
  · exact op_notN.or op_notBl
  · exact op_memM hu
  · exact op_nmemM hu
theorem val_non {x : A} (h : x.er.isNo = false) : decide (x.val = .non) = x.er.isNon := by
  cases x <;> simp [A.val, A.er, D.isNon, D.isNo] at h ⊢
theorem Cmp.ok {K : PySem.W.Frag} {H : Hp} {k : Bool} {Q : VK} (o : Cmp) {x y : A} (h : o.run x.er y.er = some k) (hx : x.ok K H) (hy : y.ok K H) (q : Q (.bl k) H) : o.r K x.val y.val H Q := by
  have mem : ∀ {ys : List A} (neg : Bool), (DpAll K H (ys.map A.val) (D.pdL (erL ys)) → Dp K H y.val (.list (D.pdL (erL ys))) ∨ Dp K H y.val (.tuple (D.pdL (erL ys)))) → okL K H ys → (if x.er.memOk (erL ys) = true then some (if neg = true then !x.er.memL (erL ys) else x.er.memL (erL ys)) else none) = some k →
      rMemM K neg x.val y.val H Q := by
    intro ys neg hd ho h
    split at h
    · rename_i c
      unfold D.memOk at c
      simp only [Bool.and_eq_true, decide_eq_true_eq] at c
      have h1 := A.dp x hx c.1.1
      have h2 := A.dpL ys ho c.1.2
      refine ⟨_, _, h1.1, hd h2.1, h1.2, h2.2, by rw [pd_dep]; exact c.2, ?_⟩
      rw [memL_pd c.1.1 c.1.2]
      cases h
      exact q
    · cases h
  have eqm : ∀ (neg : Bool), (if (x.er.cmpb && y.er.cmpb && decide (min x.er.dep y.er.dep ≤ 60)) = true then some (if neg = true then !x.er.eqv y.er else x.er.eqv y.er) else none) = some k → rEqM K neg x.val y.val H Q := by
    intro neg h
    split at h
    · rename_i c
      simp only [Bool.and_eq_true, decide_eq_true_eq] at c
      have h1 := A.dp x hx c.1.1
      have h2 := A.dp y hy c.1.2
      refine ⟨_, _, h1.1, h2.1, h1.2, h2.2, by rw [pd_dep, pd_dep]; omega, ?_⟩
      rw [pd_eqv _ _ c.1.1 c.1.2]
      cases h
      exact q
    · cases h
  unfold Cmp.run at h
  split at h
  · exact eqm false (by simpa using h)
  · exact eqm true (by simpa using h)
  · rename_i e1 e2; rw [er_int e1, er_int e2]; cases h; exact ⟨_, _, rfl, rfl, q⟩
  · rename_i e1 e2; rw [er_int e1, er_int e2]; cases h; exact ⟨_, _, rfl, rfl, q⟩
  · rename_i e1 e2; rw [er_int e1, er_int e2]; cases h; exact ⟨_, _, rfl, rfl, q⟩
  · rename_i e1 e2; rw [er_int e1, er_int e2]; cases h; exact ⟨_, _, rfl, rfl, q⟩
  · rename_i e1 e2; rw [er_bl e1, er_bl e2]; cases h; exact .inr ⟨_, _, rfl, rfl, q⟩
  · rename_i e1 e2; rw [er_bl e1, er_bl e2]; cases h; exact .inr ⟨_, _, rfl, rfl, q⟩
  · rename_i e1
    rw [er_non e1]
    split at h
    · cases h
    · rename_i n
      cases h
      exact .inl ⟨rfl, by rw [val_non (by simpa using n)]; exact q⟩
  · rename_i e1
    rw [er_non e1]
    split at h
    · cases h
    · rename_i n
      cases h
      exact .inl ⟨rfl, by rw [val_non (by simpa using n)]; exact q⟩
  all_goals first
    | (rename_i e1
       obtain ⟨a, ys, rfl, rfl⟩ := er_lst e1
       rw [A.ok] at hy
       first
         | exact mem false (fun d => .inl (.lst (SqL.of hy.1) d)) hy.2.2 (by simpa using h)
         | exact mem true (fun d => .inl (.lst (SqL.of hy.1) d)) hy.2.2 (by simpa using h))
    | (rename_i e1
       obtain ⟨a, ys, rfl, rfl⟩ := er_tup e1
       rw [A.ok] at hy
       first
         | exact mem false (fun d => .inr (.tup hy.1 d)) hy.2.2 (by simpa using h)
         | exact mem true (fun d => .inr (.tup hy.1 d)) hy.2.2 (by simpa using h))
    | (rename_i e1
       obtain ⟨a, ys, e, rfl⟩ := er_rol e1
       rcases e with rfl | rfl <;> rw [A.ok] at hy
       · first
           | exact mem false (fun d => .inl (.lst (.inl hy.1) d)) hy.2.2.1 (by simpa using h)
           | exact mem true (fun d => .inl (.lst (.inl hy.1) d)) hy.2.2.1 (by simpa using h)
       · first
           | exact mem false (fun d => .inl (.lst hy.1.sq d)) hy.2.2.1 (by simpa using h)
           | exact mem true (fun d => .inl (.lst hy.1.sq d)) hy.2.2.1 (by simpa using h))
    | cases h
end Ev
end

section
set_option Elab.async false
set_option linter.all false
set_option maxRecDepth 100000
/-! EvB5: isinstance, subscripts, slices, built-ins. -/
namespace Ev
open PySem L2 PyProof.Rows

/-! ### isinstance -/
def D.tyn : D → String
  | .non => "NoneType"
  | .bl _ => "bool"
  | .int _ => "int"
  | .str _ => "str"
  | .tup _ => "tuple"
  | .lst _ => "list"
  | .rol _ _ => "list"
  | .no => ""
  | .dct _ _ => "dict"
def Ty.nm : Ty → String
  | .int => "int"
  | .bool => "bool"
  | .str => "str"
  | .tuple => "tuple"
  | .list => "list"
theorem A.tyx {K : PySem.W.Frag} {H : Hp} {x : A} (h : x.ok K H) (n : x.er.isNo = false) : TyX K H x.val (.type x.er.tyn) := by
  cases x with
  | no => simp [A.er, D.isNo] at n
  | non => exact .base .non
  | bl b => exact .base (.bl b)
  | int i => exact .base (.int i)
  | str s => exact .base (.str s)
  | tup a xs =>
    rw [A.ok] at h
    rcases h.1 with (h | ⟨o, h⟩) | ⟨o, its, n, h, c, _⟩
    · exact .base (.tup h)
    · exact .fTuple h
    · exact .kTuple h c
  | lst a xs => rw [A.ok] at h; exact .base (.lst h.1)
  | rol a xs =>
    rw [A.ok] at h
    rcases h.1 with h | ⟨o, h⟩
    · exact .base (.lst h)
    · exact .base (.frz h)
  | kol a xs =>
    rw [A.ok] at h
    rcases h.1 with ⟨o, its, n, h, c, _⟩ | ⟨o, h⟩
    · exact .kList h c
    · exact .base (.frz h)
theorem kitB_ok : ∀ (t : Ty) (d : D) (b : Bool), t.of d = some b → kitB d.tyn t.nm = some b := by
  have f : ∀ (t : Ty), kitB "NoneType" t.nm = some false ∧ kitB "str" t.nm = some (t == .str) ∧ kitB "tuple" t.nm = some (t == .tuple) ∧ kitB "list" t.nm = some (t == .list) ∧
      kitB "int" t.nm = some (t == .int) ∧ kitB "bool" t.nm = some (t == .bool || t == .int) := by
    intro t
    cases t <;> decide +kernel
  intro t d b h
  obtain ⟨f1, f2, f3, f4, f5, f6⟩ := f t
  cases d with
  | no => cases t <;> simp [Ty.of] at h
  | non => rw [D.tyn, f1]; cases t <;> simp [Ty.of] at h <;> subst h <;> rfl
  | str s => rw [D.tyn, f2]; cases t <;> simp [Ty.of] at h <;> subst h <;> rfl
  | tup s => rw [D.tyn, f3]; cases t <;> simp [Ty.of] at h <;> subst h <;> rfl
  | lst s => rw [D.tyn, f4]; cases t <;> simp [Ty.of] at h <;> subst h <;> rfl
  | rol _ s => rw [D.tyn, f4]; cases t <;> simp [Ty.of] at h <;> subst h <;> rfl
  | int s => rw [D.tyn, f5]; cases t <;> simp [Ty.of] at h <;> subst h <;> rfl
  | bl s => rw [D.tyn, f6]; cases t <;> simp [Ty.of] at h <;> subst h <;> rfl
  | dct _ _ => cases t <;> simp [Ty.of] at h
theorem of_isNo {t : Ty} {d : D} {b : Bool} (h : t.of d = some b) : d.isNo = false := by
  cases d <;> simp [Ty.of, D.isNo] at h ⊢
theorem isIs_kit {K : PySem.W.Frag} {d : D} : ∀ {ts : List Ty} {b : Bool}, d.isIs ts = some b → PySem.W.kitAny K (.type d.tyn) (ts.map fun t => .type t.nm) = some b
  | [], b, h => by
    simp [D.isIs] at h
    subst h; rfl
  | t :: ts, b, h => by
    rw [D.isIs] at h
    cases e : t.of d with
    | none => rw [e] at h; simp at h
    | some k =>
      rw [e] at h
      rw [List.map_cons]
      cases k with
      | true =>
        simp at h
        subst h
        exact kitAny_cons (kit_ty (kitB_ok t d _ e)) (fun z => by cases z) fun _ => rfl
      | false =>
        exact kitAny_cons (kit_ty (kitB_ok t d _ e)) (fun _ => isIs_kit h) fun z => by cases z
theorem isIs_isNo {ts : List Ty} {d : D} {b : Bool} (h : d.isIs ts = some b) (ht : ts ≠ []) : d.isNo = false := by
  cases ts with
  | nil => exact absurd rfl ht
  | cons t ts =>
    rw [D.isIs] at h
    cases e : t.of d with
    | none => rw [e] at h; simp at h
    | some k => exact of_isNo e

/-! ### subscripts -/
theorem ixN_eq (n : Nat) (i : Int) : Ev.ixN n i = L2.ixN n i := rfl
theorem item_er {xs : List A} {k : Int} {d : D} (h : ((Ev.ixN (erL xs).length k).bind fun j => (erL xs)[j]?) = some d) : ∃ y ∈ xs, y.er = d ∧ atI (xs.map A.val) k = some y.val := by
  rw [erL_length] at h
  obtain ⟨j, e1, e2⟩ := Option.bind_eq_some_iff.mp h
  rw [erL_map, List.getElem?_map] at e2
  obtain ⟨y, e3, e4⟩ := Option.map_eq_some_iff.mp e2
  refine ⟨y, List.mem_of_getElem? e3, e4, ?_⟩
  unfold atI
  rw [List.length_map, ← ixN_eq, e1]
  show (xs.map A.val)[j]? = _
  rw [List.getElem?_map, e3]; rfl
theorem strOk_one {s : Str} (h : PySem.PyData.strOk s = true) {c : Nat} (m : c ∈ s.cps.toList) : PySem.PyData.strOk ⟨#[c]⟩ = true := by
  have h' : s.cps.all (· < 0x110000) = true := h
  rw [← Array.all_toList, List.all_eq_true] at h'
  show (#[c].all (· < 0x110000)) = true
  have := h' c m
  simpa using this
/-- an item, as it stands -/
theorem item_ok {K : PySem.W.Frag} {H : Hp} {x k : A} {d : D} {Q : VK} (h : x.er.item k.er = some d) (hx : x.ok K H) (q : ∀ y : A, y.er = d → y.ok K H → Q y.val H) : rIx K x.val k.val H Q := by
  unfold D.item at h
  split at h
  · rename_i e1 e2
    obtain ⟨a, xs, rfl, rfl⟩ := er_tup e1
    rw [er_int e2]
    rw [A.ok] at hx
    obtain ⟨y, m, e, ha⟩ := item_er h
    exact .inr (.inl ⟨a, _, _, _, rfl, rfl, hx.1, ha, q y e (okL_iff.mp hx.2.2 y m)⟩)
  · rename_i e1 e2
    obtain ⟨a, xs, rfl, rfl⟩ := er_lst e1
    rw [er_int e2]
    rw [A.ok] at hx
    obtain ⟨y, m, e, ha⟩ := item_er h
    exact .inl ⟨a, _, _, _, rfl, rfl, SqL.of hx.1, ha, q y e (okL_iff.mp hx.2.2 y m)⟩
  · rename_i e1 e2
    obtain ⟨a, xs, e, rfl⟩ := er_rol e1
    rw [er_int e2]
    obtain ⟨y, m, e', ha⟩ := item_er h
    rcases e with rfl | rfl
    · have := A.seqL hx (.inr (.inl rfl))
      exact .inl ⟨a, _, _, _, rfl, rfl, this.2.1, ha, q y e' (okL_iff.mp this.2.2.2 y m)⟩
    · have := A.seqL hx (.inr (.inr rfl))
      exact .inl ⟨a, _, _, _, rfl, rfl, this.2.1, ha, q y e' (okL_iff.mp this.2.2.2 y m)⟩
  · rename_i e1 e2
    have hx' := hx
    rw [er_str e1] at hx' ⊢
    rw [er_int e2]
    split at h
    · rename_i hl
      obtain ⟨j, e3, e4⟩ := Option.bind_eq_some_iff.mp h
      obtain ⟨c, e5, e6⟩ := Option.map_eq_some_iff.mp e4
      refine .inr (.inr ⟨_, _, c, rfl, rfl, by rw [← line_eq]; exact hl, by unfold atI; rw [← ixN_eq, e3]; exact e5, ?_⟩)
      exact q (.str ⟨#[c]⟩) e6 (strOk_one hx' (List.mem_of_getElem? e5))
    · cases h
  · cases h

/-! ### slices -/
theorem sIx_eq (n d : Nat) (o : Option Int) : Ev.sIx n d o = HT.sIx n d o := by
  cases o <;> rfl
theorem cut_map {α β : Type} (f : α → β) (xs : List α) (lo hi : Option Int) : Ev.cut (xs.map f) lo hi = (Ev.cut xs lo hi).map f := by
  unfold Ev.cut
  rw [List.length_map, List.map_take, List.map_drop]
theorem cut_cutV (xs : List V) (lo hi : Option Int) : Ev.cut xs lo hi = cutV xs lo hi := by
  unfold Ev.cut cutV
  rw [sIx_eq, sIx_eq]
theorem cut_mem {α : Type} {xs : List α} {lo hi : Option Int} {x : α} (h : x ∈ Ev.cut xs lo hi) : x ∈ xs := List.mem_of_mem_drop (List.mem_of_mem_take h)
theorem cut_len {α : Type} (xs : List α) (lo hi : Option Int) : (Ev.cut xs lo hi).length ≤ xs.length := by
  unfold Ev.cut
  rw [List.length_take, List.length_drop]; omega
theorem cut_er (xs : List A) (lo hi : Option Int) : Ev.cut (erL xs) lo hi = erL (Ev.cut xs lo hi) := by rw [erL_map, erL_map, cut_map]
theorem okL_cut {K : PySem.W.Frag} {H : Hp} {xs : List A} {lo hi : Option Int} (h : okL K H xs) : okL K H (Ev.cut xs lo hi) := okL_iff.mpr fun x m => okL_iff.mp h x (cut_mem m)
theorem immL_cut {xs : List D} {lo hi : Option Int} (h : D.immL xs = true) : D.immL (Ev.cut xs lo hi) = true := immL_iff.mpr fun x m => immL_iff.mp h x (cut_mem m)
theorem strOk_cut {s : Str} {lo hi : Option Int} (h : PySem.PyData.strOk s = true) : PySem.PyData.strOk ⟨(Ev.cut s.cps.toList lo hi).toArray⟩ = true := by
  have h' : s.cps.all (· < 0x110000) = true := h
  rw [← Array.all_toList, List.all_eq_true] at h'
  show ((Ev.cut s.cps.toList lo hi).toArray.all (· < 0x110000)) = true
  rw [← Array.all_toList, List.all_eq_true]
  exact fun c m => h' c (cut_mem (by simpa using m))
def rSl (K : PySem.W.Frag) : V → Option Int → Option Int → Hp → VK → Prop := fun x lo hi H Q => rSlA K x lo hi H Q ∨ rSlL K x lo hi H Q ∨ rSlS x lo hi H Q
theorem sl_any {X : Cx} : SlR X (rSl X.K) := sl_tupA.or (sl_list.or sl_str)
theorem slice_ok {K : PySem.W.Frag} {H : Hp} {x : A} {z : D} {lo hi : Option Int} {Q : VK} (h : x.er.slice lo hi = some z) (hx : x.ok K H) (q : Out K H z Q) : rSl K x.val lo hi H Q := by
  unfold D.slice at h
  split at h
  · rename_i e1
    obtain ⟨a, xs, rfl, rfl⟩ := er_tup e1
    split at h
    · rename_i hi'
      cases h
      rw [cut_er] at q
      have hx' := hx
      rw [A.ok] at hx'
      refine .inl ⟨a, _, rfl, hx'.1, fun w => ?_, fun _ p hp => ?_⟩
      · have e : Ev.cut xs lo hi = xs := by
          unfold Ev.cut
          rw [List.length_map] at w
          rw [sIx_eq, sIx_eq, w.1, w.2]; simp
        rw [e] at q
        exact Out.imm (x := .tup a xs) q hx (by simp [A.er, D.imm, hi'])
      · rw [← cut_cutV, cut_map]
        exact q.tup hp (by rw [← cut_er]; exact immL_cut hi') (okL_cut hx'.2.2) (Nat.le_trans (cut_len _ _ _) hx'.2.1)
    · cases h
  · rename_i e1
    obtain ⟨a, xs, rfl, rfl⟩ := er_lst e1
    split at h
    · rename_i hi'
      cases h
      rw [cut_er] at q
      have hx' := A.seqL hx (.inl rfl)
      refine .inr (.inl ⟨a, _, rfl, hx'.2.1, fun p hp => ?_⟩)
      rw [← cut_cutV, cut_map]
      exact q.lst hp (by rw [← cut_er]; exact immL_cut hi') (okL_cut hx'.2.2.2) (Nat.le_trans (cut_len _ _ _) hx'.2.2.1)
    · cases h
  · rename_i e1
    obtain ⟨a, xs, e, rfl⟩ := er_rol e1
    split at h
    · rename_i hi'
      cases h
      rw [cut_er] at q
      have hx' := A.seqL hx (.inr e)
      refine .inr (.inl ⟨a, _, hx'.1, hx'.2.1, fun p hp => ?_⟩)
      rw [← cut_cutV, cut_map]
      exact q.lst hp (by rw [← cut_er]; exact immL_cut hi') (okL_cut hx'.2.2.2) (Nat.le_trans (cut_len _ _ _) hx'.2.2.1)
    · cases h
  · rename_i s e1
    have hx' := hx
    rw [er_str e1] at hx' ⊢
    split at h
    · rename_i hl
      cases h
      refine .inr (.inr ⟨_, rfl, by rw [← line_eq]; exact hl, ?_⟩)
      have e : cutS s lo hi = ⟨(Ev.cut s.cps.toList lo hi).toArray⟩ := by
        unfold cutS Ev.cut
        rw [sIx_eq, sIx_eq, Array.length_toList]
        rfl
      rw [e]
      exact q.str (strOk_cut hx')
    · cases h
  · cases h

/-! ### built-ins -/
section
variable {X : Cx}
theorem alikeInts (n : Int) (ns : List Int) : PySem.W.AlikeAll ((PyData.int n) :: ns.map .int) := by
  have f : ∀ x ∈ (PyData.int n) :: ns.map .int, ∃ k, x = .int k := by
    intro x m
    rcases List.mem_cons.mp m with e | m
    · exact ⟨n, e⟩
    · obtain ⟨k, _, e⟩ := List.mem_map.mp m
      exact ⟨k, e.symm⟩
  refine ⟨fun x mx y my => ?_, fun x mx => ?_⟩
  · obtain ⟨a, rfl⟩ := f x mx
    obtain ⟨b, rfl⟩ := f y my
    simp [PySem.W.alike]
  · obtain ⟨a, rfl⟩ := f x mx
    intro z; cases z
theorem depthInts (n : Int) (ns : List Int) : PyData.depthAll ((PyData.int n) :: ns.map .int) = 0 := by
  have f : ∀ ns : List Int, PyData.depthAll (ns.map .int) = 0 := by
    intro ns
    induction ns with
    | nil => simp [PyData.depthAll]
    | cons k ns ih => simp [PyData.depthAll, PyData.depth, ih]
  simp [PyData.depthAll, PyData.depth, f]
theorem readsInts {h : Heap} : ∀ {us : List Value} {ns : List Int}, Vals (ns.map V.int) us → ∃ as, ReadsAll h us (ns.map .int) as
  | _, [], r => by cases r; exact ⟨_, .nil⟩
  | _, n :: ns, r => by
    cases r with
    | cons r rr =>
      obtain ⟨t, rfl⟩ := r
      obtain ⟨as, q⟩ := readsInts rr
      exact ⟨_, .cons (.int n t) q⟩
def rMM (K : PySem.W.Frag) (f : Int → Int → Int) : List V → Hp → VK → Prop := fun vs H Q => ∃ (a : Addr) (n : Int) (ns : List Int), vs = [V.ref a] ∧ (SqL K H a ((n :: ns).map V.int) ∨ SqT K H a ((n :: ns).map V.int)) ∧ Q (.int (ns.foldl f n)) H
theorem cr_maxI (hc : X.calm = true) (hu : X.A.units + 64 < cLine) : CallR X (.builtin "max") (rMM X.K max) := by
  intro pins s σ H vs us Q I r h
  obtain ⟨a, n, ns, rfl, hs, q⟩ := h
  rw [Vals.ref1 r]
  rcases hs with hs | hs
  · obtain ⟨its, rv, hl, _⟩ := I.list hs
    obtain ⟨as, ra⟩ := readsInts (h := s.heap) (ns := n :: ns) rv
    refine PySem.W.max_list_data (I.ok.hd hc) hl.isList (by simpa using ra) (alikeInts n ns) (by rw [depthInts]; omega) fun i v h' tk bs _ rd hk => ?_
    rw [PySem.W.maxD_ints] at rd
    cases rd
    exact ⟨.int _, H, I.kept hk, ⟨_, rfl⟩, q⟩
  · obtain ⟨its, rv, hl, _⟩ := I.tuple hs
    obtain ⟨as, ra⟩ := readsInts (h := s.heap) (ns := n :: ns) rv
    refine PySem.W.max_tuple_data (I.ok.hd hc) (show s.heap.IsTuple a its.toArray from hl) (by simpa using ra) (alikeInts n ns) (by rw [depthInts]; omega) fun i v h' tk bs _ rd hk => ?_
    rw [PySem.W.maxD_ints] at rd
    cases rd
    exact ⟨.int _, H, I.kept hk, ⟨_, rfl⟩, q⟩
theorem cr_minI (hc : X.calm = true) (hu : X.A.units + 64 < cLine) : CallR X (.builtin "min") (rMM X.K min) := by
  intro pins s σ H vs us Q I r h
  obtain ⟨a, n, ns, rfl, hs, q⟩ := h
  rw [Vals.ref1 r]
  rcases hs with hs | hs
  · obtain ⟨its, rv, hl, _⟩ := I.list hs
    obtain ⟨as, ra⟩ := readsInts (h := s.heap) (ns := n :: ns) rv
    refine PySem.W.min_list_data (I.ok.hd hc) hl.isList (by simpa using ra) (alikeInts n ns) (by rw [depthInts]; omega) fun i v h' tk bs _ rd hk => ?_
    rw [PySem.W.minD_ints] at rd
    cases rd
    exact ⟨.int _, H, I.kept hk, ⟨_, rfl⟩, q⟩
  · obtain ⟨its, rv, hl, _⟩ := I.tuple hs
    obtain ⟨as, ra⟩ := readsInts (h := s.heap) (ns := n :: ns) rv
    refine PySem.W.min_tuple_data (I.ok.hd hc) (show s.heap.IsTuple a its.toArray from hl) (by simpa using ra) (alikeInts n ns) (by rw [depthInts]; omega) fun i v h' tk bs _ rd hk => ?_
    rw [PySem.W.minD_ints] at rd
    cases rd
    exact ⟨.int _, H, I.kept hk, ⟨_, rfl⟩, q⟩
end
end Ev
end

section
set_option Elab.async false
set_option linter.all false
set_option maxRecDepth 100000
/-! EvB6: expressions, construct by construct. -/
namespace Ev
open PySem L2
theorem bind_assoc {α β γ : Type} (r : R α) (f : α → Env → R β) (g : β → Env → R γ) : (r.bind f).bind g = r.bind fun a ρ => (f a ρ).bind g := by cases r <;> rfl
theorem opt_bind {α β γ : Type} (o : Option α) (f : α → R β) (g : β → Env → R γ) : (opt o f).bind g = opt o fun a => (f a).bind g := by cases o <;> rfl
theorem ifOk_bind {β γ : Type} (b : Bool) (r : R β) (g : β → Env → R γ) : (ifOk b r).bind g = ifOk b (r.bind g) := by cases b <;> rfl
section
variable {K : PySem.W.Frag} {gl : Nat → Option D} {call : Nat → List D → R D} {XR : XRel} {W : WX} {σ : St} {α : List A} {H : Hp} {β : Type} {E : Ex → Env → Prop} {P : β → Env → Prop} {f : D → Env → R β}
theorem oneB {e : Ev.E} {Q : VK} (m : Mt σ α) (g : Good K H α) (s : ((evM gl call e .b (erL α)).bind f).sat P E) (hE : ∀ x ρ, E x ρ → EX K XR W σ α H x ρ)
    (k : ∀ x α1 H1, x.ok K H1 → Mt σ α1 → Stp K (Wof e.quiet α) α H (own e x ++ α1) H1 → (f x.er (erL α1)).sat P E → Q x.val H1) : tB K gl call XR W e σ H Q := by
  refine ⟨α, m, g, sat_mono (sat_bind.mp s) (fun d ρ h x α1 H1 e1 e2 m1 st ok => ?_) hE⟩
  subst e1 e2
  exact k x α1 H1 ok m1 st h
theorem oneV {e : Ev.E} {Q : VK} (m : Mt σ α) (g : Good K H α) (s : ((evM gl call e .v (erL α)).bind f).sat P E) (hE : ∀ x ρ, E x ρ → EX K XR W σ α H x ρ)
    (k : ∀ x α1 H1, Mt σ α1 → Stp K (Wof e.quiet α) α H (x :: α1) H1 → (f x.er (erL α1)).sat P E → Q x.val H1) : tV K gl call XR W e σ H Q := by
  refine ⟨α, m, g, sat_mono (sat_bind.mp s) (fun d ρ h x α1 H1 e1 e2 m1 st => ?_) hE⟩
  subst e1 e2
  exact k x α1 H1 m1 st h
theorem oneT {e : Ev.E} {Q : Bool → Hp → Prop} (m : Mt σ α) (g : Good K H α) (s : ((evM gl call e .t (erL α)).bind f).sat P E) (hE : ∀ x ρ, E x ρ → EX K XR W σ α H x ρ)
    (k : ∀ d α1 H1, Mt σ α1 → Stp K (Wof e.quiet α) α H α1 H1 → (f d (erL α1)).sat P E → Q d.isT H1) : tT K gl call XR W e σ H Q := by
  refine ⟨α, m, g, sat_mono (sat_bind.mp s) (fun d ρ h α1 H1 e2 m1 st => ?_) hE⟩
  subst e2
  exact k d α1 H1 m1 st h
theorem bind_id {r : R D} : (r.bind fun d ρ => .ok d ρ) = r := by cases r <;> rfl
/-- .. the last one: all is said by its own end -/
theorem lastV {e : Ev.E} {Q : VK} (m : Mt σ α) (g : Good K H α) {P : D → Env → Prop} (s : (evM gl call e .v (erL α)).sat P E) (hE : ∀ x ρ, E x ρ → EX K XR W σ α H x ρ)
    (k : ∀ x α1 H1, Mt σ α1 → Stp K (Wof e.quiet α) α H (x :: α1) H1 → P x.er (erL α1) → Q x.val H1) : tV K gl call XR W e σ H Q := by
  rw [← bind_id (r := evM gl call e .v (erL α))] at s
  exact oneV m g s hE k
theorem lastB {e : Ev.E} {Q : VK} (m : Mt σ α) (g : Good K H α) {P : D → Env → Prop} (s : (evM gl call e .b (erL α)).sat P E) (hE : ∀ x ρ, E x ρ → EX K XR W σ α H x ρ)
    (k : ∀ x α1 H1, x.ok K H1 → Mt σ α1 → Stp K (Wof e.quiet α) α H (own e x ++ α1) H1 → P x.er (erL α1) → Q x.val H1) : tB K gl call XR W e σ H Q := by
  rw [← bind_id (r := evM gl call e .b (erL α))] at s
  exact oneB m g s hE k
theorem lastT {e : Ev.E} {Q : Bool → Hp → Prop} (m : Mt σ α) (g : Good K H α) {P : D → Env → Prop} (s : (evM gl call e .t (erL α)).sat P E) (hE : ∀ x ρ, E x ρ → EX K XR W σ α H x ρ)
    (k : ∀ d α1 H1, Mt σ α1 → Stp K (Wof e.quiet α) α H α1 H1 → P d (erL α1) → Q d.isT H1) : tT K gl call XR W e σ H Q := by
  rw [← bind_id (r := evM gl call e .t (erL α))] at s
  exact oneT m g s hE k
end
/-- an expression that stands by itself -/
def plainE : Expr → Bool
  | .Starred .. => false
  | .Slice .. => false
  | _ => true
theorem plainIx {b : Expr} (h : plainE b = true) : PlainIx b := by
  intro o i
  cases b <;> first | rfl | (simp [plainE] at h)
theorem starCons {e : Expr} {es : List Expr} {env : PySem.Env} (h : plainE e = true) : starEach (e :: es) env = (false, eval e env) :: starEach es env := by
  cases e <;> first | rfl | (simp [plainE] at h)
theorem starAny {es : List Expr} {env : PySem.Env} (h : es.all plainE = true) (pos : Pos) : (backTo pos (starEach es env)).any (·.1) = false := by
  induction es with
  | nil => rfl
  | cons e es ih =>
    rw [List.all_cons, Bool.and_eq_true] at h
    rw [starCons h.1]
    exact ih h.2
section
variable {X : Cx} {gl : Nat → Option D} {call : Nat → List D → R D} {XR : XRel} {W : WX}
/-- a place -/
theorem SE.plc {e : Ev.E} {ex : Expr} (h : PE X ex (tB X.K gl call XR W e)) (ht : e.temp = false) (hm : ∀ m ρ, evM gl call e m ρ = (evM gl call e .b ρ).bind fun d ρ' => m.plc d ρ')
    (he : ∀ whole, isTrue ex X.env whole = (do let v ← whole; standAt ex.pos; holding [v] (truthy v))) : SE X gl call XR W e ex := by
  have ow : ∀ x, own e x = [] := fun x => by unfold own; rw [ht]; rfl
  refine ⟨impE h fun σ H Q q => ?_, h, fun _ => impT (pt_truth h he) fun σ H Q q => ?_⟩
  · obtain ⟨α, m, g, s⟩ := q
    rw [hm] at s
    refine oneB m g s (fun _ _ z => z) fun x α1 H1 ok m1 st s1 => ?_
    rw [ow] at st
    obtain ⟨hi, s1⟩ := sat_ifOk.mp s1
    exact s1 x α1 H1 rfl rfl m1 (st.imm ok hi)
  · obtain ⟨α, m, g, s⟩ := q
    rw [hm] at s
    refine oneB m g s (fun _ _ z => z) fun x α1 H1 ok m1 st s1 => ?_
    rw [ow] at st
    obtain ⟨k, ek, s1⟩ := sat_opt.mp s1
    exact ⟨k, truth_ok ek ok, s1 α1 H1 rfl m1 st⟩
theorem rd_at {σ : St} {α : List A} {i : Nat} {d : D} (m : Mt σ α) (h : rd (erL α) i = some d) : ∃ x, α[i]? = some x ∧ x.er = d ∧ σ[i]? = some (some x.val) := by
  obtain ⟨x, e1, e2, n⟩ := rd_er h
  exact ⟨x, e1, e2, (m.at_ i x e1).resolve_left n⟩
theorem s_var {i : Nat} {x : Str} {pos : Pos} (hN : X.N[i]? = some x) (hv : Vis X.env.scope x) (hd : (x == ("__debug__" : Str)) = false) (hcd : (x == ("__classdict__" : Str)) = false) : SE X gl call XR W (.var i) (.Name x pos) := by
  refine SE.plc (impE (pe_var hN hv hd hcd) fun σ H Q q => ?_) rfl (fun m ρ => ?_) fun _ => rfl
  · obtain ⟨α, m, g, s⟩ := q
    obtain ⟨d, ed, s⟩ := sat_opt.mp s
    obtain ⟨y, e1, e2, e3⟩ := rd_at m ed
    exact ⟨_, e3, s y α H e2 rfl m (Stp.refl g) (okL_iff.mp g.ok y (List.mem_of_getElem? e1))⟩
  · show opt (rd ρ i) _ = (opt (rd ρ i) _).bind _
    rw [opt_bind]
    rfl
/-- footprints when a slot changes -/
theorem footL_set : ∀ {α : List A} {i : Nat} {x : A}, α[i]? = some x → ∃ l, (footL α).Perm (x.foot ++ l) ∧ ∀ y, (footL (α.set i y)).Perm (y.foot ++ l)
  | z :: α, 0, x, h => by
    simp at h; subst h
    exact ⟨footL α, .refl _, fun y => .refl _⟩
  | z :: α, i + 1, x, h => by
    obtain ⟨l, p, q⟩ := footL_set (α := α) (i := i) (x := x) (by simpa using h)
    refine ⟨z.foot ++ l, ?_, fun y => ?_⟩
    · show (z.foot ++ footL α).Perm _
      exact (List.Perm.append_left _ p).trans (by rw [← List.append_assoc, ← List.append_assoc]; exact List.Perm.append_right _ List.perm_append_comm)
    · show (z.foot ++ footL (α.set i y)).Perm _
      exact (List.Perm.append_left _ (q y)).trans (by rw [← List.append_assoc, ← List.append_assoc]; exact List.Perm.append_right _ List.perm_append_comm)
theorem okL_set {K : PySem.W.Frag} {H : Hp} {α : List A} {i : Nat} {y : A} (h : okL K H α) (hy : y.ok K H) : okL K H (α.set i y) := by
  rw [okL_iff] at h ⊢
  intro x m
  rcases List.mem_or_eq_of_mem_set m with q | q
  · exact h x q
  · subst q; exact hy
theorem erL_set (α : List A) (i : Nat) (y : A) : erL (α.set i y) = (erL α).set i y.er := by rw [erL_map, erL_map, List.map_set]
/-- a slot's value taken out -/
theorem Good.take {K : PySem.W.Frag} {H : Hp} {α : List A} {i : Nat} {x : A} (g : Good K H α) (h : α[i]? = some x) : Good K H (x :: α.set i .no) := by
  obtain ⟨l, p, q⟩ := footL_set h
  refine g.sub ⟨okL_iff.mp g.ok x (List.mem_of_getElem? h), okL_set g.ok trivial⟩ ⟨[], ?_⟩
  rw [List.append_nil]
  exact p.trans (List.Perm.append_left _ (q .no).symm)
theorem Mt.set_no {σ : St} {α : List A} {i : Nat} (m : Mt σ α) : Mt σ (α.set i .no) := by
  refine ⟨by rw [List.length_set]; exact m.len, fun j x h => ?_⟩
  by_cases e : i = j
  · subst e
    by_cases hl : i < α.length
    · rw [List.getElem?_set_self hl] at h
      exact .inl (Option.some.inj h).symm
    · rw [List.getElem?_eq_none (by simpa using hl)] at h; cases h
  · rw [List.getElem?_set_ne e] at h
    exact m.at_ j x h
theorem stp_same {K : PySem.W.Frag} {W : List Addr} {Γ Γ' : List A} {H : Hp} (g : Good K H Γ') (hf : ∀ a ∈ footL Γ', a ∈ footL Γ) : Stp K W Γ H Γ' H := ⟨g, .refl, fun a m => .inl (hf a m)⟩
theorem Stp.take {K : PySem.W.Frag} {H : Hp} {W : List Addr} {α : List A} {i : Nat} {x : A} (g : Good K H α) (h : α[i]? = some x) : Stp K W α H (x :: α.set i .no) H := by
  obtain ⟨l, p, q⟩ := footL_set h
  exact stp_same (g.take h) fun a m => p.mem_iff.mpr ((List.Perm.append_left x.foot (q .no)).mem_iff.mp m)
theorem s_mov {i : Nat} {x : Str} {pos : Pos} (hN : X.N[i]? = some x) (hv : Vis X.env.scope x) (hd : (x == ("__debug__" : Str)) = false) (hcd : (x == ("__classdict__" : Str)) = false) : SE X gl call XR W (.mov i) (.Name x pos) := by
  refine SE.temp (impE (pe_var hN hv hd hcd) fun σ H Q q => ?_) rfl (fun ρ => rfl) (fun ρ => rfl) fun _ _ => rfl
  obtain ⟨α, m, g, s⟩ := q
  obtain ⟨d, ed, s⟩ := sat_opt.mp s
  obtain ⟨y, e1, e2, e3⟩ := rd_at m ed
  refine ⟨_, e3, ?_⟩
  have oy := okL_iff.mp g.ok y (List.mem_of_getElem? e1)
  split at s
  · rename_i hi
    exact s y α H e2 rfl m ((Stp.refl g).imm oy (by rw [e2]; exact hi))
  · obtain ⟨_, s⟩ := sat_ifOk.mp s
    exact s y (α.set i .no) H e2 (by rw [erL_set]; rfl) m.set_no (Stp.take g e1)
theorem s_const {e : Ev.E} {ex : Expr} {x : A} (h : PE X ex (tC x.val)) (ok : ∀ H, x.ok X.K H) (hi : x.er.imm = true) (he : e.temp = true) (hv : ∀ ρ, evM gl call e .v ρ = .ok x.er ρ) (hb : ∀ ρ, evM gl call e .b ρ = .ok x.er ρ)
    (ht : ∀ ρ, evM gl call e .t ρ = Md.t.tr (.ok x.er ρ)) (htr : e.testable = true → ∀ whole, isTrue ex X.env whole = (do let v ← whole; standAt ex.pos; holding [v] (truthy v))) : SE X gl call XR W e ex := by
  refine SE.temp (impE h fun σ H Q q => ?_) he (fun ρ => by rw [hb, hv]) (fun ρ => by rw [ht, hv]) htr
  obtain ⟨α, m, g, s⟩ := q
  rw [hv] at s
  exact s x α H rfl rfl m ((Stp.refl g).imm (ok H) hi)
theorem s_non {j pos} : SE X gl call XR W .non (.Constant .none j pos) := s_const (x := .non) pe_non (fun _ => trivial) rfl rfl (fun _ => rfl) (fun _ => rfl) (fun _ => rfl) fun _ _ => rfl
theorem s_bl {b j pos} : SE X gl call XR W (.bl b) (.Constant (.bool b) j pos) := s_const (x := .bl b) pe_bl (fun _ => trivial) rfl rfl (fun _ => rfl) (fun _ => rfl) (fun _ => rfl) fun _ _ => rfl
theorem s_int {i j pos} : SE X gl call XR W (.int i) (.Constant (.int i) j pos) := s_const (x := .int i) pe_int (fun _ => trivial) rfl rfl (fun _ => rfl) (fun _ => rfl) (fun _ => rfl) fun _ _ => rfl
theorem s_str {x j pos} (h : PySem.PyData.strOk x = true) : SE X gl call XR W (.str x) (.Constant (.str x) j pos) := s_const (x := .str x) pe_str (fun _ => h) rfl rfl (fun _ => rfl) (fun _ => rfl) (fun _ => rfl) fun _ _ => rfl
/-- a constant of the module -/
theorem s_glb {g : Nat} {x : Str} {pos : Pos} {a : A} {u : Value} (hg : Gl X x) (hm : X.mg x = some u) (r : RelV a.val u) (ok : ∀ H, a.ok X.K H) (hi : a.er.imm = true) (hgl : gl g = some a.er) (hd : (x == ("__debug__" : Str)) = false) :
    SE X gl call XR W (.glb g) (.Name x pos) := by
  have e : ∀ ρ, (opt (gl g) fun d => ifOk d.imm (R.ok d ρ)) = .ok a.er ρ := fun ρ => by rw [hgl]; show ifOk a.er.imm _ = _; rw [hi]; rfl
  exact s_const (x := a) (pe_glob hg hm r hd) ok hi rfl (fun ρ => e ρ) (fun ρ => e ρ) (fun ρ => congrArg Md.t.tr (e ρ)) fun _ _ => rfl
/-- two operands -/
theorem two {a b : Ev.E} {σ : St} {α : List A} {H : Hp} {β : Type} {P : β → Env → Prop} {f : D → D → Env → R β} {Q : V → V → Hp → Prop} {K : PySem.W.Frag} (m : Mt σ α) (g : Good K H α)
    (s : ((evM gl call a .b (erL α)).bind fun x ρ1 => ifOk (needs x a b.quiet) <| (evM gl call b .b ρ1).bind fun y ρ2 => f x y ρ2).sat P (EX K XR W σ α H))
    (k : ∀ (x y : A) (α2 : List A) (H2 : Hp), x.ok K H2 → y.ok K H2 → Mt σ α2 → Stp K (Wof (a.quiet && b.quiet) α) α H (own b y ++ α2) H2 → (f x.er y.er (erL α2)).sat P (EX K XR W σ α H) → Q x.val y.val H2) :
    tB K gl call XR W a σ H fun v H1 => tB K gl call XR W b σ H1 fun u H2 => Q v u H2 := by
  refine oneB m g s (fun _ _ z => z) fun x α1 H1 ok1 m1 st1 s1 => ?_
  obtain ⟨n, s1⟩ := sat_ifOk.mp s1
  refine oneB m1 st1.good.right s1 (fun _ _ z => EX.on st1.right z) fun y α2 H2 ok2 m2 st2 s2 => ?_
  exact k x y α2 H2 (keep st1 ok1 st2 n) ok2 m2 (st1.right.seq st2) s2
theorem s_bin {a b : Ev.E} {o : Op2} {ea eb : Expr} {pos : Pos} (ha : SE X gl call XR W a ea) (hb : SE X gl call XR W b eb) : SE X gl call XR W (.bin o a b) (.BinOp ea o.syn eb pos) := by
  refine SE.temp (impE (pe_op o.is ha.b hb.b) fun σ H Q q => ?_) rfl (fun _ => rfl) (fun _ => rfl) fun _ _ => rfl
  obtain ⟨α, m, g, s⟩ := q
  refine two m g s fun x y α2 H2 okx oky m2 st2 s2 => ?_
  obtain ⟨z, ez, s2⟩ := sat_opt.mp s2
  exact o.ok ez okx oky fun w H3 ew f3 okw nw fw => s2 w α2 H3 ew rfl m2 (st2.right.new f3 okw nw fw)
theorem Stp.sc {K : PySem.W.Frag} {W : List Addr} {Γ Γ' : List A} {H H' : Hp} (s : Stp K W Γ H Γ' H') {w : A} (h : w.ok K H') (hi : w.er.imm = true) : Stp K W Γ H (w :: Γ') H' := s.imm h hi
theorem s_neg {a : Ev.E} {ea : Expr} {pos : Pos} (ha : SE X gl call XR W a ea) : SE X gl call XR W (.neg a) (.UnaryOp .USub ea pos) := by
  refine SE.temp (impE (pe_un un_neg ha.b) fun σ H Q q => ?_) rfl (fun _ => rfl) (fun _ => rfl) fun _ _ => rfl
  obtain ⟨α, m, g, s⟩ := q
  refine oneB m g s (fun _ _ z => z) fun x α1 H1 ok1 m1 st1 s1 => ?_
  obtain ⟨i, ei, s1⟩ := sat_opt.mp s1
  have ex : x = .int i := by
    cases x <;> simp [A.er, D.int?] at ei
    subst ei; rfl
  subst ex
  exact ⟨i, rfl, s1 (.int (-i)) α1 H1 rfl rfl m1 (st1.right.sc trivial rfl)⟩
theorem cmp_t {a b : Ev.E} {o : Cmp} {ρ : Env} : evM gl call (.cmp o a b) .t ρ = evM gl call (.cmp o a b) .v ρ := by
  show R.bind (R.bind _ _) _ = R.bind _ _
  rw [bind_assoc]
  congr 1; funext x ρ1
  rw [ifOk_bind, bind_assoc]
  congr 2; funext y ρ2
  rw [opt_bind]
  rfl
theorem chn_t {a b c : Ev.E} {o p : Cmp} {ρ : Env} : evM gl call (.chn o p a b c) .t ρ = evM gl call (.chn o p a b c) .v ρ := by
  show R.bind (R.bind _ _) _ = R.bind _ _
  rw [bind_assoc]
  congr 1; funext x ρ1
  rw [ifOk_bind, bind_assoc]
  congr 2; funext y ρ2
  rw [opt_bind]
  congr 1; funext z
  cases z with
  | false => rfl
  | true =>
    show (ifOk _ _).bind _ = ifOk _ _
    rw [ifOk_bind, bind_assoc]
    congr 2; funext w ρ3
    rw [opt_bind]
    rfl
theorem s_cmp {a b : Ev.E} {o : Cmp} {ea eb : Expr} {pos : Pos} (hu : X.A.units + 64 < cLine) (ha : SE X gl call XR W a ea) (hb : SE X gl call XR W b eb) (hm : behindInMarks o.syn eb = false) : SE X gl call XR W (.cmp o a b) (.Compare ea [o.syn] [eb] pos) := by
  have core : ∀ σ H (Q : VK), tV X.K gl call XR W (.cmp o a b) σ H Q → tOp (o.r X.K) (tB X.K gl call XR W a) (tB X.K gl call XR W b) σ H Q := by
    intro σ H Q q
    obtain ⟨α, m, g, s⟩ := q
    refine two m g s fun x y α2 H2 okx oky m2 st2 s2 => ?_
    obtain ⟨z, ez, s2⟩ := sat_opt.mp s2
    exact o.ok ez okx oky (s2 (.bl z) α2 H2 rfl rfl m2 (st2.right.sc trivial rfl))
  have hv := impE (pe_cmpR (o.opR hu) ha.b hb.b hm (pos := pos)) core
  refine ⟨hv, impE hv fun σ H Q q => ?_, fun _ => impT (pt_cmpR (o.opR hu) ha.b hb.b hm) fun σ H Q q => ?_⟩
  · obtain ⟨α, m, g, s⟩ := q
    exact ⟨α, m, g, sat_mono s (fun d ρ q x α' H' e1 e2 m' st => q x α' H' e1 e2 m' st st.good.ok.1) fun _ _ z => z⟩
  · obtain ⟨α, m, g, s⟩ := q
    rw [cmp_t] at s
    refine two (Q := fun v u H2 => o.r X.K v u H2 fun x H' => ∃ k, x = .bl k ∧ Q k H') m g s fun x y α2 H2 okx oky m2 st2 s2 => ?_
    obtain ⟨z, ez, s2⟩ := sat_opt.mp s2
    exact o.ok ez okx oky ⟨z, rfl, s2 α2 H2 rfl m2 st2.right⟩
theorem Wof_mono {q q' : Bool} {α : List A} (h : q' = true → q = true) : ∀ a ∈ Wof q α, a ∈ Wof q' α := by
  intro a m
  unfold Wof at *
  cases q <;> cases q' <;> simp_all
theorem s_chn {a b c : Ev.E} {o p : Cmp} {ea eb ec : Expr} {pos : Pos} (hu : X.A.units + 64 < cLine) (ha : SE X gl call XR W a ea) (hb : SE X gl call XR W b eb) (hc : SE X gl call XR W c ec) (hm : lastMarks [o.syn, p.syn] [eb, ec] = false) :
    SE X gl call XR W (.chn o p a b c) (.Compare ea [o.syn, p.syn] [eb, ec] pos) := by
  have core : ∀ {P : D → Env → Prop} σ α H (Q : VK), Mt σ α → Good X.K H α → (evM gl call (.chn o p a b c) .v (erL α)).sat P (EX X.K XR W σ α H) →
      (∀ k α1 H1, Mt σ α1 → Stp X.K (Wof (E.quiet (.chn o p a b c)) α) α H α1 H1 → P (.bl k) (erL α1) → Q (.bl k) H1) → tChain (o.r X.K) (p.r X.K) (tB X.K gl call XR W a) (tB X.K gl call XR W b) (tB X.K gl call XR W c) σ H Q := by
    intro P σ α H Q m g s fin
    refine two m g s fun x y α2 H2 okx oky m2 st2 s2 => ?_
    obtain ⟨z, ez, s2⟩ := sat_opt.mp s2
    refine o.ok ez okx oky ⟨z, rfl, ?_⟩
    cases z with
    | false =>
      exact fin false α2 H2 m2 (st2.right.mono (Wof_mono fun h => (Bool.and_eq_true _ _ ▸ (show ((a.quiet && b.quiet) && c.quiet) = true from h)).1)) s2
    | true =>
      have s2 : (ifOk (needs y.er b c.quiet) <| (evM gl call c .b (erL α2)).bind fun w ρ3 => opt (p.run y.er w) fun k => .ok (.bl k) ρ3).sat P (EX X.K XR W σ α H) := s2
      obtain ⟨n, s2⟩ := sat_ifOk.mp s2
      show tB X.K gl call XR W c σ H2 (fun w' H4 => p.r X.K y.val w' H4 Q)
      refine oneB m2 st2.right.good s2 (fun _ _ z => EX.on st2.right z) fun w α3 H3 okw m3 st3 s3 => ?_
      obtain ⟨k, ek, s3⟩ := sat_opt.mp s3
      exact p.ok ek (keep st2 oky st3 n) okw (fin k α3 H3 m3 (st2.right.seq st3.right) s3)
  have hv : PE X (.Compare ea [o.syn, p.syn] [eb, ec] pos) (tV X.K gl call XR W (.chn o p a b c)) := impE (pe_chain (o.opR hu) (p.opR hu) ha.b hb.b hc.b hm) fun σ H Q q => by
    obtain ⟨α, m, g, s⟩ := q
    exact core σ α H Q m g s fun k α1 H1 m1 st f => f (.bl k) α1 H1 rfl rfl m1 (st.sc trivial rfl)
  refine ⟨hv, impE hv fun σ H Q q => ?_, fun _ => impT (pt_chain (o.opR hu) (p.opR hu) ha.b hb.b hc.b hm) fun σ H Q q => ?_⟩
  · obtain ⟨α, m, g, s⟩ := q
    exact ⟨α, m, g, sat_mono s (fun d ρ q x α' H' e1 e2 m' st => q x α' H' e1 e2 m' st st.good.ok.1) fun _ _ z => z⟩
  · obtain ⟨α, m, g, s⟩ := q
    rw [chn_t] at s
    exact core σ α H _ m g s fun k α1 H1 m1 st f => ⟨k, rfl, f α1 H1 rfl m1 st⟩
theorem s_not {a : Ev.E} {ea : Expr} {pos : Pos} (ha : SE X gl call XR W a ea) (ta : a.testable = true) : SE X gl call XR W (.not a) (.UnaryOp .Not ea pos) := by
  have hv : PE X (.UnaryOp .Not ea pos) (tV X.K gl call XR W (.not a)) := impE (pe_notT ha.b) fun σ H Q q => by
    obtain ⟨α, m, g, s⟩ := q
    refine oneB m g s (fun _ _ z => z) fun x α1 H1 ok1 m1 st1 s1 => ?_
    obtain ⟨k, ek, s1⟩ := sat_opt.mp s1
    exact ⟨k, truth_ok ek ok1, s1 (.bl (!k)) α1 H1 rfl rfl m1 (st1.right.sc trivial rfl)⟩
  refine ⟨hv, impE hv fun σ H Q q => ?_, fun _ => impT (pt_not (ha.t ta)) fun σ H Q q => ?_⟩
  · obtain ⟨α, m, g, s⟩ := q
    exact ⟨α, m, g, sat_mono s (fun d ρ q x α' H' e1 e2 m' st => q x α' H' e1 e2 m' st st.good.ok.1) fun _ _ z => z⟩
  · obtain ⟨α, m, g, s⟩ := q
    exact oneT m g s (fun _ _ z => z) fun d α1 H1 m1 st1 s1 => s1 α1 H1 rfl m1 st1
theorem s_and {a b : Ev.E} {ea eb : Expr} {rest : List Expr} {pos : Pos} (ha : SE X gl call XR W a ea) (hbv : PE X (.BoolOp .And (eb :: rest) pos) (tV X.K gl call XR W b)) (ta : a.testable = true)
    (hbt : PW X (.BoolOp .And (eb :: rest) pos) (tT X.K gl call XR W b)) :
    PE X (.BoolOp .And (ea :: eb :: rest) pos) (tV X.K gl call XR W (.and a b)) ∧ PW X (.BoolOp .And (ea :: eb :: rest) pos) (tT X.K gl call XR W (.and a b)) := by
  refine ⟨impE (pe_andT ha.v hbv) fun σ H Q q => ?_, ?_⟩
  · obtain ⟨α, m, g, s⟩ := q
    refine oneV m g s (fun _ _ z => z) fun x α1 H1 m1 st1 s1 => ?_
    obtain ⟨k, ek, s1⟩ := sat_opt.mp s1
    refine ⟨k, truth_ok ek st1.good.ok.1, ?_⟩
    cases k with
    | false => exact s1 x α1 H1 rfl rfl m1 (st1.mono (Wof_mono fun h => by simp [E.quiet] at h; exact h.1))
    | true =>
      have st1' : Stp X.K (Wof a.quiet α) α H α1 H1 := Stp.right (Δ := [x]) st1
      have s1 : (evM gl call b .v (erL α1)).sat _ _ := s1
      exact lastV m1 st1'.good s1 (fun _ _ z => EX.on st1' z) fun y α2 H2 m2 st2 f => f y α2 H2 rfl rfl m2 (st1'.seq st2)
  · have h := pw_and (ha.t ta) hbt
    refine ⟨fun wh pins s σ H Q I q => h.run wh pins s σ H Q I ?_⟩
    obtain ⟨α, m, g, s⟩ := q
    refine oneT m g s (fun _ _ z => z) fun d α1 H1 m1 st1 s1 => ?_
    cases hd : d.isT with
    | false =>
      rw [hd] at s1
      exact s1 α1 H1 rfl m1 (st1.mono (Wof_mono fun h => by simp [E.quiet] at h; exact h.1))
    | true =>
      rw [hd] at s1
      have s1 : (evM gl call b .t (erL α1)).sat _ _ := s1
      exact lastT m1 st1.good s1 (fun _ _ z => EX.on st1 z) fun y α2 H2 m2 st2 f => f α2 H2 rfl m2 (st1.seq st2)
theorem s_or {a b : Ev.E} {ea eb : Expr} {rest : List Expr} {pos : Pos} (ha : SE X gl call XR W a ea) (hbv : PE X (.BoolOp .Or (eb :: rest) pos) (tV X.K gl call XR W b)) (ta : a.testable = true)
    (hbt : PW X (.BoolOp .Or (eb :: rest) pos) (tT X.K gl call XR W b)) :
    PE X (.BoolOp .Or (ea :: eb :: rest) pos) (tV X.K gl call XR W (.or a b)) ∧ PW X (.BoolOp .Or (ea :: eb :: rest) pos) (tT X.K gl call XR W (.or a b)) := by
  refine ⟨impE (pe_orT ha.v hbv) fun σ H Q q => ?_, ?_⟩
  · obtain ⟨α, m, g, s⟩ := q
    refine oneV m g s (fun _ _ z => z) fun x α1 H1 m1 st1 s1 => ?_
    obtain ⟨k, ek, s1⟩ := sat_opt.mp s1
    refine ⟨k, truth_ok ek st1.good.ok.1, ?_⟩
    cases k with
    | true => exact s1 x α1 H1 rfl rfl m1 (st1.mono (Wof_mono fun h => by simp [E.quiet] at h; exact h.1))
    | false =>
      have st1' : Stp X.K (Wof a.quiet α) α H α1 H1 := Stp.right (Δ := [x]) st1
      have s1 : (evM gl call b .v (erL α1)).sat _ _ := s1
      exact lastV m1 st1'.good s1 (fun _ _ z => EX.on st1' z) fun y α2 H2 m2 st2 f => f y α2 H2 rfl rfl m2 (st1'.seq st2)
  · have h := pw_or (ha.t ta) hbt
    refine ⟨fun wh pins s σ H Q I q => h.run wh pins s σ H Q I ?_⟩
    obtain ⟨α, m, g, s⟩ := q
    refine oneT m g s (fun _ _ z => z) fun d α1 H1 m1 st1 s1 => ?_
    cases hd : d.isT with
    | true =>
      rw [hd] at s1
      exact s1 α1 H1 rfl m1 (st1.mono (Wof_mono fun h => by simp [E.quiet] at h; exact h.1))
    | false =>
      rw [hd] at s1
      have s1 : (evM gl call b .t (erL α1)).sat _ _ := s1
      exact lastT m1 st1.good s1 (fun _ _ z => EX.on st1 z) fun y α2 H2 m2 st2 f => f α2 H2 rfl m2 (st1.seq st2)
theorem s_boolop {e : Ev.E} {op : BoolOp} {es : List Expr} {pos : Pos} (h : PE X (.BoolOp op es pos) (tV X.K gl call XR W e) ∧ PW X (.BoolOp op es pos) (tT X.K gl call XR W e)) (ht : e.temp = true) (hb : ∀ ρ, evM gl call e .b ρ = evM gl call e .v ρ) : SE X gl call XR W e (.BoolOp op es pos) := by
  refine ⟨h.1, impE h.1 fun σ H Q q => ?_, fun _ => h.2.pt⟩
  obtain ⟨α, m, g, s⟩ := q
  rw [hb] at s
  exact ⟨α, m, g, sat_mono s (fun d ρ q x α' H' e1 e2 m' st => q x α' H' e1 e2 m' (by unfold own; rw [ht]; exact st) st.good.ok.1) fun _ _ z => z⟩
theorem s_ite {c a b : Ev.E} {ec ea eb : Expr} {pos : Pos} (hc : SE X gl call XR W c ec) (tc : c.testable = true) (ha : SE X gl call XR W a ea) (hb : SE X gl call XR W b eb) : SE X gl call XR W (.ite c a b) (.IfExp ec ea eb pos) := by
  refine SE.temp (impE (pe_ifExp (hc.t tc) ha.v hb.v) fun σ H Q q => ?_) rfl (fun _ => rfl) (fun _ => rfl) fun h => by simp [E.testable] at h
  obtain ⟨α, m, g, s⟩ := q
  refine oneT m g s (fun _ _ z => z) fun d α1 H1 m1 st1 s1 => ?_
  cases hd : d.isT with
  | true =>
    rw [hd] at s1
    have s1 : (evM gl call a .v (erL α1)).sat _ _ := s1
    exact lastV m1 st1.good s1 (fun _ _ z => EX.on st1 z) fun y α2 H2 m2 st2 f => f y α2 H2 rfl rfl m2 ((st1.seq st2).mono (Wof_mono fun h => by simp [E.quiet] at h ⊢; exact h.1))
  | false =>
    rw [hd] at s1
    have s1 : (evM gl call b .v (erL α1)).sat _ _ := s1
    exact lastV m1 st1.good s1 (fun _ _ z => EX.on st1 z) fun y α2 H2 m2 st2 f => f y α2 H2 rfl rfl m2 ((st1.seq st2).mono (Wof_mono fun h => by simp [E.quiet] at h ⊢; exact ⟨h.1.1, h.2⟩))
theorem idx_bind {a i : Ev.E} (md : Md) (ρ : Env) : evM gl call (.idx a i) md ρ = (evM gl call (.idx a i) .b ρ).bind fun d ρ' => md.plc d ρ' := by
  show R.bind _ _ = R.bind (R.bind _ _) _
  rw [bind_assoc]
  congr 1; funext x ρ1
  rw [ifOk_bind, bind_assoc]
  congr 2; funext k ρ2
  rw [opt_bind]
  rfl
theorem s_idx {a i : Ev.E} {ea ei : Expr} {pos : Pos} (ha : SE X gl call XR W a ea) (hi : SE X gl call XR W i ei) (hp : plainE ei = true) : SE X gl call XR W (.idx a i) (.Subscript ea ei pos) := by
  refine SE.plc (impE (pe_ix ix_seq ha.b hi.v (plainIx hp)) fun σ H Q q => ?_) rfl idx_bind fun _ => rfl
  obtain ⟨α, m, g, s⟩ := q
  refine oneB m g s (fun _ _ z => z) fun x α1 H1 ok1 m1 st1 s1 => ?_
  obtain ⟨n, s1⟩ := sat_ifOk.mp s1
  refine oneV m1 st1.good.right s1 (fun _ _ z => EX.on st1.right z) fun k α2 H2 m2 st2 s2 => ?_
  obtain ⟨d, ed, s2⟩ := sat_opt.mp s2
  have st2' : Stp X.K (Wof i.quiet α1) α1 H1 α2 H2 := Stp.right (Δ := [k]) st2
  exact item_ok ed (keep st1 ok1 st2 n) fun y ey oky => s2 y α2 H2 ey rfl m2 (st1.right.seq st2') oky
/-- a bound of a slice -/
theorem bound {e : Ev.E} {t : TO} {σ : St} {α : List A} {H : Hp} {K : PySem.W.Frag} {β : Type} {P : β → Env → Prop} {E : Ex → Env → Prop} {F : Option Int → Env → R β} {R : Option Int → Hp → Prop}
    (k : (e = .part ∧ t = tNoPart) ∨ (e ≠ .part ∧ t = tPart (tV K gl call XR W e))) (m : Mt σ α) (g : Good K H α)
    (s : ((evM gl call e .v (erL α)).bind fun d ρ => opt (partOf e d) fun l => F l ρ).sat P E) (hE : ∀ x ρ, E x ρ → EX K XR W σ α H x ρ)
    (q : ∀ o α2 H2, Mt σ α2 → Stp K (Wof e.quiet α) α H α2 H2 → (F o (erL α2)).sat P E → R o H2) : t σ H R := by
  rcases k with ⟨rfl, rfl⟩ | ⟨ne, rfl⟩
  · exact q none α H m (Stp.refl g) s
  · refine oneV m g s hE fun x α1 H1 m1 st1 s1 => ?_
    obtain ⟨l, el, s1⟩ := sat_opt.mp s1
    have e2 : partOf e x.er = x.er.int?.map some := by cases e <;> first | rfl | exact absurd rfl ne
    rw [e2] at el
    obtain ⟨i, ei, e3⟩ := Option.map_eq_some_iff.mp el
    have ex : x = .int i := by
      cases x <;> simp [A.er, D.int?] at ei
      subst ei; rfl
    subst ex e3
    exact ⟨i, rfl, q (some i) α1 H1 m1 (Stp.right (Δ := [A.int i]) st1) s1⟩
theorem s_slc {a lo hi : Ev.E} {ea : Expr} {el eh : Option Expr} {p2 pos : Pos} {tl th : TO} (ha : SE X gl call XR W a ea) (hl : PO X el tl) (hh : PO X eh th)
    (kl : (lo = .part ∧ tl = tNoPart) ∨ (lo ≠ .part ∧ tl = tPart (tV X.K gl call XR W lo))) (kh : (hi = .part ∧ th = tNoPart) ∨ (hi ≠ .part ∧ th = tPart (tV X.K gl call XR W hi))) :
    SE X gl call XR W (.slc a lo hi) (.Subscript ea (.Slice el eh none p2) pos) := by
  refine SE.temp (impE (pe_slice sl_any ha.b hl hh) fun σ H Q q => ?_) rfl (fun _ => rfl) (fun _ => rfl) fun _ _ => rfl
  obtain ⟨α, m, g, s⟩ := q
  refine oneB m g s (fun _ _ z => z) fun x α1 H1 ok1 m1 st1 s1 => ?_
  obtain ⟨n, s1⟩ := sat_ifOk.mp s1
  refine bound kl m1 st1.good.right s1 (fun _ _ z => EX.on st1.right z) fun l α2 H2 m2 st2 s2 => ?_
  have st12 := st1.right.seq st2
  refine bound kh m2 st2.good s2 (fun _ _ z => EX.on st12 z) fun h α3 H3 m3 st3 s3 => ?_
  obtain ⟨z, ez, s3⟩ := sat_opt.mp s3
  have st13 := st12.seq st3
  have st23 : Stp X.K (Wof (lo.quiet && hi.quiet) α1) α1 H1 α3 H3 := st2.seq st3
  refine slice_ok ez (keep st1 ok1 st23 n) fun w H4 ew f4 okw nw fw => s3 w α3 H4 ew rfl m3 (Stp.new ?_ f4 okw nw fw)
  exact st13
/-- argument lists -/
def tEs (K : PySem.W.Frag) (gl : Nat → Option D) (call : Nat → List D → R D) (XR : XRel) (W : WX) (es : Ev.Es) : TA := fun σ H Q => ∃ α, Mt σ α ∧ Good K H α ∧
  (evEs gl call es (erL α)).sat (fun ds ρ => ∀ xs α' H', erL xs = ds → erL α' = ρ → Mt σ α' → Stp K (Wof es.quiet α) α H (xs ++ α') H' → Q (xs.map A.val) H') (EX K XR W σ α H)
theorem impA {X : Cx} {ex : List Expr} {t t' : TA} (h : PA X ex t) (f : ∀ σ H Q, t' σ H Q → t σ H Q) : PA X ex t' :=
  ⟨fun pos pins s σ H Q I q => h.run pos pins s σ H Q I (f σ H Q q)⟩
theorem s_nilE : PA X [] (tEs X.K gl call XR W .nil) := impA pa_nil fun σ H Q q => by
  obtain ⟨α, m, g, s⟩ := q
  exact s [] α H rfl rfl m (Stp.refl g)
theorem s_consE {e : Ev.E} {es : Ev.Es} {ex : Expr} {exs : List Expr} (he : SE X gl call XR W e ex) (hes : PA X exs (tEs X.K gl call XR W es)) (hp : plainE ex = true) : PA X (ex :: exs) (tEs X.K gl call XR W (.cons e es)) := by
  refine impA (pa_cons he.v hes (starCons hp)) fun σ H Q q => ?_
  obtain ⟨α, m, g, s⟩ := q
  refine oneV m g s (fun _ _ z => z) fun x α1 H1 m1 st1 s1 => ?_
  have st1' : Stp X.K (Wof e.quiet α) α H α1 H1 := Stp.right (Δ := [x]) st1
  refine ⟨α1, m1, st1'.good, sat_mono (sat_bind.mp s1) (fun ds ρ f xs α2 H2 e1 e2 m2 st2 => ?_) fun _ _ z => EX.on st1' z⟩
  have f : ∀ xs α' H', erL xs = x.er :: ds → erL α' = ρ → Mt σ α' → Stp X.K (Wof (e.quiet && es.quiet) α) α H (xs ++ α') H' → Q (xs.map A.val) H' := f
  refine f (x :: xs) α2 H2 (by rw [erL, e1]) e2 m2 ?_
  have st2' : Stp X.K (Wof es.quiet α1) (x :: α1) H1 (x :: (xs ++ α2)) H2 := Stp.frame (Δ := [x]) st1.good st2 Wof_sub
  refine (st1.mono ?_).trans st2' ?_
  · exact Wof_mono fun h => by rw [Bool.and_eq_true] at h; exact h.1
  · intro a m
    cases hq : es.quiet with
    | true => rw [hq] at m; unfold Wof at m; simp at m
    | false =>
      unfold Wof
      rw [Bool.and_false]
      simp only [Bool.false_eq_true, if_false]
      exact st1'.wsub a (Wof_sub a m)
theorem s_tup {es : Ev.Es} {exs : List Expr} {x1 pos} (h : PA X exs (tEs X.K gl call XR W es)) : SE X gl call XR W (.tup es) (.Tuple exs x1 pos) := by
  refine SE.temp (impE (pe_tup h) fun σ H Q q => ?_) rfl (fun _ => rfl) (fun _ => rfl) fun _ _ => rfl
  obtain ⟨α, m, g, s⟩ := q
  refine ⟨α, m, g, sat_mono (sat_bind.mp s) (fun ds ρ f xs α1 H1 e1 e2 m1 st1 => ?_) fun _ _ z => z⟩
  obtain ⟨hl, f⟩ := sat_ifOk.mp f
  rw [← e1, erL_length, fits_iff] at hl
  refine ⟨by rw [List.length_map, ← line_eq]; exact hl, fun p hp => ?_⟩
  have fr : Fr [] H1 (upd H1 p (.tup (xs.map A.val))) := .new hp
  have gx := okL_append.mp st1.good.ok
  have np : ∀ a, H1 a ≠ none → a ≠ p := fun a n e => n (by rw [e]; exact hp)
  refine f (.tup p xs) α1 _ (by rw [← e1]; rfl) e2 m1 (st1.trans (W' := []) ⟨⟨⟨⟨SqT.of upd_same, hl, okL_grow fr gx.1⟩, okL_grow fr gx.2⟩, ?_⟩, fr, ?_⟩ (by simp))
  · have := st1.good.nd
    rw [footL_append] at this
    exact this
  · intro a m
    rw [footL_append]
    exact .inl m
theorem s_lst {es : Ev.Es} {exs : List Expr} {pos} (h : PA X exs (tEs X.K gl call XR W es)) : SE X gl call XR W (.lst es) (.List exs pos) := by
  refine SE.temp (impE (pe_lst h) fun σ H Q q => ?_) rfl (fun _ => rfl) (fun _ => rfl) fun _ _ => rfl
  obtain ⟨α, m, g, s⟩ := q
  refine ⟨α, m, g, sat_mono (sat_bind.mp s) (fun ds ρ f xs α1 H1 e1 e2 m1 st1 => ?_) fun _ _ z => z⟩
  obtain ⟨hl, f⟩ := sat_ifOk.mp f
  rw [← e1, erL_length, fits_iff] at hl
  refine ⟨by rw [List.length_map, ← line_eq]; exact hl, fun p hp => ?_⟩
  have fr : Fr [] H1 (upd H1 p (.lst (xs.map A.val))) := .new hp
  have gx := okL_append.mp st1.good.ok
  have nf : p ∉ (footL (xs ++ α1)).map (·.2) := fun m => by
    obtain ⟨q, mq, e⟩ := List.mem_map.mp m
    exact (footL_at _ st1.good.ok q mq).1 (by rw [e]; exact hp)
  refine f (.lst p xs) α1 _ (by rw [← e1]; rfl) e2 m1 (st1.trans (W' := []) ⟨⟨⟨⟨upd_same, hl, okL_grow fr gx.1⟩, okL_grow fr gx.2⟩, ?_⟩, fr, ?_⟩ (by simp))
  · have := st1.good.nd
    rw [footL_append] at this nf
    show (((true, p) :: footL xs ++ footL α1).map (·.2)).Nodup
    exact List.nodup_cons.mpr ⟨nf, this⟩
  · intro a m
    rw [footL_append]
    rcases List.mem_cons.mp (show a ∈ (true, p) :: (footL xs ++ footL α1) from m) with e | m
    · subst e; exact .inr hp
    · exact .inl m
end
end Ev
end

section
set_option Elab.async false
set_option linter.all false
set_option maxRecDepth 100000
/-! EvB7: built-in calls, isinstance. -/
namespace Ev
open PySem L2
theorem ints_er : ∀ {xs : List A} {ns : List Int}, D.ints (erL xs) = some ns → xs = ns.map A.int
  | [], ns, h => by
    simp [erL, D.ints] at h
    subst h; rfl
  | x :: xs, ns, h => by
    rw [erL] at h
    cases x <;> simp [A.er, D.ints] at h
    obtain ⟨ms, e, rfl⟩ := h
    rw [ints_er e]; rfl
theorem map_int_val (ns : List Int) : (ns.map A.int).map A.val = ns.map V.int := by
  rw [List.map_map]; rfl
def Blt.fn : Blt → Bool
  | .len | .abs | .max | .min | .sum | .sorted => true
  | _ => false
def Blt.nm : Blt → String
  | .len => "len" | .abs => "abs" | .max => "max" | .min => "min" | .sum => "sum" | .sorted => "sorted"
  | .int => "int" | .tuple => "tuple" | .list => "list" | .bool => "bool" | .str => "str"
  | .sset => "" | .lset => ""
/-- the value of the built-in's name -/
def Blt.vl (b : Blt) : Value := if b.fn = true then .builtin b.nm else .type b.nm
def Blt.r (K : PySem.W.Frag) : Blt → List V → Hp → VK → Prop
  | .len => fun xs H Q => ∃ x n, xs = [x] ∧ LenV K x H n ∧ Q (.int n) H
  | .abs => fun xs H Q => ∃ i, xs = [.int i] ∧ Q (.int (if i < 0 then -i else i)) H
  | .max => fun xs H Q => (∃ i j, xs = [.int i, .int j] ∧ Q (.int (if j > i then j else i)) H) ∨ rMM K Max.max xs H Q
  | .min => fun xs H Q => (∃ i j, xs = [.int i, .int j] ∧ Q (.int (if j < i then j else i)) H) ∨ rMM K Min.min xs H Q
  | .sum => rSum K
  | .int => fun xs H Q => (∃ i, xs = [.int i] ∧ Q (.int i) H) ∨ ∃ k, xs = [.bl k] ∧ Q (.int (if k then 1 else 0)) H
  | .bool => fun xs H Q => (∃ i, xs = [.int i] ∧ Q (.bl (i != 0)) H) ∨ ∃ k, xs = [.bl k] ∧ Q (.bl k) H
  | .tuple => fun xs H Q => ∃ p ys, xs = [.ref p] ∧ ((SqL K H p ys ∧ ∀ l, H l = none → Q (.ref l) (upd H l (.tup ys))) ∨ (SqT K H p ys ∧ Q (.ref p) H))
  | .list => fun xs H Q => ∃ p ys, xs = [.ref p] ∧ (SqL K H p ys ∨ SqT K H p ys) ∧ ∀ l, H l = none → Q (.ref l) (upd H l (.lst ys))
  | _ => fun _ _ _ => False
theorem noCall {X : Cx} {f : Value} : CallR X f fun _ _ _ => False := fun _ _ _ _ _ _ _ _ _ h => h.elim
theorem Blt.is {X : Cx} (hc : X.calm = true) (hu : X.A.units + 64 < cLine) (b : Blt) : CallR X b.vl (b.r X.K) := by
  cases b
  · exact call_len
  · exact call_int1
  · exact call_abs
  · exact (call_max2 hc).or (cr_maxI hc hu)
  · exact (call_min2 hc).or (cr_minI hc hu)
  · exact cr_sum hc
  · exact call_tuple_of
  · exact call_list_of
  · exact noCall
  · exact noCall
  · exact call_bool1
  · exact noCall
  · exact noCall
theorem er1 {xs : List A} {d : D} (h : erL xs = [d]) : ∃ x, xs = [x] ∧ x.er = d := by
  match xs, h with
  | [x], h => exact ⟨x, rfl, by simpa [erL] using h⟩
  | [], h => simp [erL] at h
  | _ :: _ :: _, h => simp [erL] at h
theorem er2 {xs : List A} {d e : D} (h : erL xs = [d, e]) : ∃ x y, xs = [x, y] ∧ x.er = d ∧ y.er = e := by
  match xs, h with
  | [x, y], h => exact ⟨x, y, rfl, by simpa [erL] using h⟩
  | [], h => simp [erL] at h
  | [_], h => simp [erL] at h
  | _ :: _ :: _ :: _, h => simp [erL] at h
theorem Blt.ok {K : PySem.W.Frag} {H : Hp} {z : D} {Q : VK} (b : Blt) {xs : List A} (h : b.run (erL xs) = some z) (hx : okL K H xs) (q : Out K H z Q) : b.r K (xs.map A.val) H Q := by
  have mm : ∀ {f : Int → Int → Int} {a : Addr} {ys : List A} {g : List Int → Option Int}, (∀ n ns, g (n :: ns) = some (ns.foldl f n)) → g [] = none → ((D.ints (erL ys)).bind fun ns => (g ns).map D.int) = some z → (SqL K H a (ys.map A.val) ∨ SqT K H a (ys.map A.val)) → rMM K f [.ref a] H Q := by
    intro f a ys g hg h0 h hs
    obtain ⟨ns, e1, e2⟩ := Option.bind_eq_some_iff.mp h
    obtain ⟨k, e3, e4⟩ := Option.map_eq_some_iff.mp e2
    have e := ints_er e1
    subst e
    rw [map_int_val] at hs
    cases ns with
    | nil => rw [h0] at e3; cases e3
    | cons n ns =>
      rw [hg] at e3
      cases e3
      subst e4
      exact ⟨a, n, ns, rfl, hs, q.int⟩
  unfold Blt.run at h
  split at h
  · rename_i e
    obtain ⟨x, rfl, e0⟩ := er1 e
    obtain ⟨a, ys, rfl, rfl⟩ := er_tup e0
    have hy := hx.1
    rw [A.ok] at hy
    cases h
    rw [erL_length] at q
    exact ⟨_, _, rfl, .inr ⟨_, hy.1, rfl⟩, by rw [List.length_map]; exact q.int⟩
  · rename_i e
    obtain ⟨x, rfl, e0⟩ := er1 e
    obtain ⟨a, ys, rfl, rfl⟩ := er_lst e0
    have hy := A.seqL hx.1 (.inl rfl)
    cases h
    rw [erL_length] at q
    exact ⟨_, _, rfl, .inl ⟨_, hy.2.1, rfl⟩, by rw [List.length_map]; exact q.int⟩
  · rename_i e
    obtain ⟨x, rfl, e0⟩ := er1 e
    obtain ⟨a, ys, er', rfl⟩ := er_rol e0
    have hy := A.seqL hx.1 (.inr er')
    cases h
    rw [erL_length] at q
    refine ⟨_, ys.length, rfl, ?_, q.int⟩
    show LenV K x.val H ys.length
    rw [hy.1]
    exact .inl ⟨_, hy.2.1, by rw [List.length_map]⟩
  · rename_i s e
    obtain ⟨x, rfl, e0⟩ := er1 e
    split at h
    · rename_i hl
      cases h
      rw [er_str e0]
      exact ⟨_, _, rfl, ⟨by rw [← line_eq]; exact hl, rfl⟩, q.int⟩
    · cases h
  · rename_i e
    obtain ⟨x, rfl, e0⟩ := er1 e
    rw [er_int e0]; cases h
    exact .inl ⟨_, rfl, q.int⟩
  · rename_i e
    obtain ⟨x, rfl, e0⟩ := er1 e
    rw [er_bl e0]; cases h
    exact .inr ⟨_, rfl, q.int⟩
  · rename_i e
    obtain ⟨x, rfl, e0⟩ := er1 e
    rw [er_int e0]; cases h
    exact ⟨_, rfl, q.int⟩
  · rename_i e
    obtain ⟨x, y, rfl, e1, e2⟩ := er2 e
    rw [er_int e1, er_int e2]; cases h
    exact .inl ⟨_, _, rfl, q.int⟩
  · rename_i e
    obtain ⟨x, y, rfl, e1, e2⟩ := er2 e
    rw [er_int e1, er_int e2]; cases h
    exact .inl ⟨_, _, rfl, q.int⟩
  · rename_i e
    obtain ⟨x, rfl, e0⟩ := er1 e
    obtain ⟨a, ys, rfl, rfl⟩ := er_lst e0
    exact .inr (mm (fun _ _ => rfl) rfl h (.inl (A.seqL hx.1 (.inl rfl)).2.1))
  · rename_i e
    obtain ⟨x, rfl, e0⟩ := er1 e
    obtain ⟨a, ys, rfl, rfl⟩ := er_tup e0
    have hy := hx.1
    rw [A.ok] at hy
    exact .inr (mm (fun _ _ => rfl) rfl h (.inr hy.1))
  · rename_i e
    obtain ⟨x, rfl, e0⟩ := er1 e
    obtain ⟨a, ys, rfl, rfl⟩ := er_lst e0
    exact .inr (mm (fun _ _ => rfl) rfl h (.inl (A.seqL hx.1 (.inl rfl)).2.1))
  · rename_i e
    obtain ⟨x, rfl, e0⟩ := er1 e
    obtain ⟨a, ys, rfl, rfl⟩ := er_tup e0
    have hy := hx.1
    rw [A.ok] at hy
    exact .inr (mm (fun _ _ => rfl) rfl h (.inr hy.1))
  · rename_i e
    obtain ⟨x, rfl, e0⟩ := er1 e
    obtain ⟨a, ys, rfl, rfl⟩ := er_lst e0
    obtain ⟨ns, e1, e2⟩ := Option.map_eq_some_iff.mp h
    have e := ints_er e1
    subst e e2
    have hy := (A.seqL hx.1 (.inl rfl)).2.1
    rw [map_int_val] at hy
    exact ⟨a, ns, rfl, hy, q.int⟩
  · rename_i e
    obtain ⟨x, rfl, e0⟩ := er1 e
    obtain ⟨a, ys, rfl, rfl⟩ := er_lst e0
    split at h
    · rename_i hi
      cases h
      have hy := A.seqL hx.1 (.inl rfl)
      exact ⟨a, _, rfl, .inl ⟨hy.2.1, fun l hl => q.tup hl hi hy.2.2.2 hy.2.2.1⟩⟩
    · cases h
  · rename_i e
    obtain ⟨x, rfl, e0⟩ := er1 e
    obtain ⟨a, ys, er', rfl⟩ := er_rol e0
    split at h
    · rename_i hi
      cases h
      have hy := A.seqL hx.1 (.inr er')
      exact ⟨a, _, by rw [List.map_cons, hy.1]; rfl, .inl ⟨hy.2.1, fun l hl => q.tup hl hi hy.2.2.2 hy.2.2.1⟩⟩
    · cases h
  · rename_i e
    obtain ⟨x, rfl, e0⟩ := er1 e
    obtain ⟨a, ys, rfl, rfl⟩ := er_tup e0
    split at h
    · rename_i hi
      cases h
      have hy := hx.1
      rw [A.ok] at hy
      exact ⟨a, _, rfl, .inr ⟨hy.1, Out.imm (x := .tup a ys) q hx.1 (by simp [A.er, D.imm, hi])⟩⟩
    · cases h
  · rename_i e
    obtain ⟨x, rfl, e0⟩ := er1 e
    obtain ⟨a, ys, rfl, rfl⟩ := er_lst e0
    split at h
    · rename_i hi
      cases h
      have hy := A.seqL hx.1 (.inl rfl)
      exact ⟨a, _, rfl, .inl hy.2.1, fun l hl => q.lst hl hi hy.2.2.2 hy.2.2.1⟩
    · cases h
  · rename_i e
    obtain ⟨x, rfl, e0⟩ := er1 e
    obtain ⟨a, ys, er', rfl⟩ := er_rol e0
    split at h
    · rename_i hi
      cases h
      have hy := A.seqL hx.1 (.inr er')
      exact ⟨a, _, by rw [List.map_cons, hy.1]; rfl, .inl hy.2.1, fun l hl => q.lst hl hi hy.2.2.2 hy.2.2.1⟩
    · cases h
  · rename_i e
    obtain ⟨x, rfl, e0⟩ := er1 e
    obtain ⟨a, ys, rfl, rfl⟩ := er_tup e0
    split at h
    · rename_i hi
      cases h
      have hy := hx.1
      rw [A.ok] at hy
      exact ⟨a, _, rfl, .inr hy.1, fun l hl => q.lst hl hi hy.2.2 hy.2.1⟩
    · cases h
  · rename_i e
    obtain ⟨x, rfl, e0⟩ := er1 e
    rw [er_int e0]; cases h
    exact .inl ⟨_, rfl, q.bl⟩
  · rename_i e
    obtain ⟨x, rfl, e0⟩ := er1 e
    rw [er_bl e0]; cases h
    exact .inr ⟨_, rfl, q.bl⟩
  · cases h
section
variable {X : Cx} {gl : Nat → Option D} {call : Nat → List D → R D} {XR : XRel} {W : WX}
/-- borrowed arguments -/
def tBs (K : PySem.W.Frag) (gl : Nat → Option D) (call : Nat → List D → R D) (XR : XRel) (W : WX) (es : Ev.Es) : TA := fun σ H Q => ∃ α, Mt σ α ∧ Good K H α ∧
  (evBs gl call es (erL α)).sat (fun ds ρ => ∀ xs α' H', erL xs = ds → erL α' = ρ → Mt σ α' → Stp K (Wof es.quiet α) α H α' H' → okL K H' xs → Q (xs.map A.val) H') (EX K XR W σ α H)
theorem s_nilB : PA X [] (tBs X.K gl call XR W .nil) := impA pa_nil fun σ H Q q => by
  obtain ⟨α, m, g, s⟩ := q
  exact s [] α H rfl rfl m (Stp.refl g) trivial
theorem s_consB {e : Ev.E} {es : Ev.Es} {ex : Expr} {exs : List Expr} (he : SE X gl call XR W e ex) (hes : PA X exs (tBs X.K gl call XR W es)) (hp : plainE ex = true) : PA X (ex :: exs) (tBs X.K gl call XR W (.cons e es)) := by
  refine impA (pa_cons he.b hes (starCons hp)) fun σ H Q q => ?_
  obtain ⟨α, m, g, s⟩ := q
  refine oneB m g s (fun _ _ z => z) fun x α1 H1 ok1 m1 st1 s1 => ?_
  obtain ⟨n, s1⟩ := sat_ifOk.mp s1
  refine ⟨α1, m1, st1.right.good, sat_mono (sat_bind.mp s1) (fun ds ρ f xs α2 H2 e1 e2 m2 st2 ok2 => ?_) fun _ _ z => EX.on st1.right z⟩
  have f : ∀ xs α' H', erL xs = x.er :: ds → erL α' = ρ → Mt σ α' → Stp X.K (Wof (e.quiet && es.quiet) α) α H α' H' → okL X.K H' xs → Q (xs.map A.val) H' := f
  exact f (x :: xs) α2 H2 (by rw [erL, e1]) e2 m2 (st1.right.seq st2) ⟨keep st1 ok1 st2 n, ok2⟩
theorem s_blt {b : Blt} {e : Ev.E} {es : Ev.Es} {ex : Expr} {exs : List Expr} {x : Str} {p pos : Pos} (hc : X.calm = true) (hu : X.A.units + 64 < cLine) (h : PA X (ex :: exs) (tBs X.K gl call XR W es)) (hp : (ex :: exs).all plainE = true)
    (hg : Gl X x) (hm : X.mg x = none) (hv : bootBuiltins x = some b.vl) (hn : x ≠ "__name__") (hd : (x == ("__debug__" : Str)) = false) : SE X gl call XR W (.blt b es) (.Call (.Name x p) (ex :: exs) [] pos) := by
  rw [List.all_cons, Bool.and_eq_true] at hp
  have hb := Blt.is (X := X) hc hu b
  have hP : PE X (.Call (.Name x p) (ex :: exs) [] pos) (tCB (b.r X.K) (tBs X.K gl call XR W es)) := by
    unfold Blt.vl at hb hv
    split at hb
    · rename_i hf
      rw [if_pos hf] at hv
      exact pe_callB hb hg hm hv h hn hd (starCons hp.1) (starAny hp.2 pos)
    · rename_i hf
      rw [if_neg hf] at hv
      exact pe_callTy hb hg hm hv h hn hd (starCons hp.1) (starAny hp.2 pos)
  refine SE.temp (impE hP fun σ H Q q => ?_) rfl (fun _ => rfl) (fun _ => rfl) fun _ _ => rfl
  obtain ⟨α, m, g, s⟩ := q
  refine ⟨α, m, g, sat_mono (sat_bind.mp s) (fun ds ρ f xs α1 H1 e1 e2 m1 st1 ok1 => ?_) fun _ _ z => z⟩
  obtain ⟨z, ez, f⟩ := sat_opt.mp f
  rw [← e1] at ez
  exact b.ok ez ok1 fun w H2 ew f2 okw nw fw => f w α1 H2 ew e2 m1 (st1.new f2 okw nw fw)
/-- a built-in type as an argument -/
theorem pe_ty {t : Ty} {x : Str} {pos : Pos} (hg : Gl X x) (hm : X.mg x = none) (hv : bootBuiltins x = some (.type t.nm)) (hn : x ≠ "__name__") (hd : (x == ("__debug__" : Str)) = false) : PE X (.Name x pos) (tC (.ty t.nm)) :=
  pe_bltn hg hm hv rfl hn hd
theorem s_isi {a : Ev.E} {t : Ty} {ea : Expr} {x y : Str} {p p2 pos : Pos} (ha : SE X gl call XR W a ea) (hp : plainE ea = true) (hg : Gl X x) (hm : X.mg x = none) (hv : bootBuiltins x = some (.builtin "isinstance")) (hn : x ≠ "__name__") (hd : (x == ("__debug__" : Str)) = false)
    (ht : PE X (.Name y p2) (tC (.ty t.nm))) : SE X gl call XR W (.isi a t) (.Call (.Name x p) [ea, .Name y p2] [] pos) := by
  refine SE.temp (impE (pe_callB call_isi hg hm hv (pa_cons ha.b (pa_cons ht pa_nil) (starCons hp)) hn hd (starCons hp) rfl) fun σ H Q q => ?_) rfl (fun _ => rfl) (fun _ => rfl) fun _ _ => rfl
  obtain ⟨α, m, g, s⟩ := q
  show tB X.K gl call XR W a σ H (fun x H1 => rIsi X.K [x, V.ty t.nm] H1 Q)
  refine oneB m g s (fun _ _ z => z) fun x α1 H1 ok1 m1 st1 s1 => ?_
  obtain ⟨b, eb, s1⟩ := sat_opt.mp s1
  exact ⟨_, _, _, _, b, rfl, .ty t.nm, A.tyx ok1 (of_isNo eb), kit_ty (kitB_ok t x.er b eb), s1 (.bl b) α1 H1 rfl rfl m1 (st1.right.sc trivial rfl)⟩
theorem pa_tys : ∀ {ts : List Ty} {xs : List Expr}, Paired (fun (t : Ty) ex => plainE ex = true ∧ PE X ex (tC (.ty t.nm))) ts xs → ∃ t, PA X xs t ∧ ∀ σ H Q, Q (ts.map fun t => V.ty t.nm) H → t σ H Q
  | [], [], _ => ⟨_, pa_nil, fun _ _ _ q => q⟩
  | t :: ts, x :: xs, .cons h r => by
    obtain ⟨tt, h1, h2⟩ := pa_tys r
    exact ⟨_, pa_cons h.2 h1 (starCons h.1), fun σ H Q q => h2 σ H _ q⟩
theorem clsV_all : ∀ ts : List Ty, Paired ClsV (ts.map fun t => V.ty t.nm) (ts.map fun t => Value.type t.nm)
  | [] => .nil
  | t :: ts => .cons (.ty t.nm) (clsV_all ts)
theorem s_isis {a : Ev.E} {ts : List Ty} {ea : Expr} {exs : List Expr} {k : Nat} {x : Str} {p p2 pos : Pos} (ha : SE X gl call XR W a ea) (hp : plainE ea = true) (hg : Gl X x) (hm : X.mg x = none) (hv : bootBuiltins x = some (.builtin "isinstance")) (hn : x ≠ "__name__")
    (hd : (x == ("__debug__" : Str)) = false) (ht : Paired (fun (t : Ty) ex => plainE ex = true ∧ PE X ex (tC (.ty t.nm))) ts exs) (hne : ts ≠ []) (hl : ts.length ≤ 100) : SE X gl call XR W (.isis a ts) (.Call (.Name x p) [ea, .Tuple exs k p2] [] pos) := by
  obtain ⟨tt, h1, h2⟩ := pa_tys ht
  refine SE.temp (impE (pe_callB call_isiT hg hm hv (pa_cons ha.b (pa_cons (pe_tup h1) pa_nil) (starCons hp)) hn hd (starCons hp) rfl) fun σ H Q q => ?_) rfl (fun _ => rfl) (fun _ => rfl) fun _ _ => rfl
  obtain ⟨α, m, g, s⟩ := q
  show tB X.K gl call XR W a σ H (fun x H1 => tTup tt σ H1 fun y H2 => rIsiT X.K [x, y] H2 Q)
  refine oneB m g s (fun _ _ z => z) fun x α1 H1 ok1 m1 st1 s1 => ?_
  obtain ⟨b, eb, s1⟩ := sat_opt.mp s1
  refine h2 σ H1 _ ⟨by rw [List.length_map, sizeLine_eq]; omega, fun tp htp => ?_⟩
  have f : Fr [] H1 (upd H1 tp (.tup (ts.map fun t => V.ty t.nm))) := .new htp
  refine ⟨_, tp, _, _, _, b, rfl, upd_same, clsV_all ts, A.tyx (ok_grow f ok1) (isIs_isNo eb hne), isIs_kit eb, s1 (.bl b) α1 _ rfl rfl m1 ?_⟩
  exact st1.right.new f trivial List.nodup_nil (by simp [A.foot])
end
end Ev
end

section
set_option Elab.async false
set_option linter.all false
set_option maxRecDepth 100000
/-! EvB8: calls of the text's own defs. -/
namespace Ev
open PySem L2
/-- parameters behind a call stand where they stood -/
inductive Bk : List V → List A → Prop
  | nil : Bk [] []
  | cons {v : V} {vs : List V} {y : A} {ys : List A} : (y = .no ∨ y.val = v) → Bk vs ys → Bk (v :: vs) (y :: ys)
theorem Bk.refl : ∀ xs : List A, Bk (xs.map A.val) xs
  | [] => .nil
  | x :: xs => .cons (.inr rfl) (Bk.refl xs)
/-- what a def promises: what the evaluator tells -/
def spC (K : PySem.W.Frag) (XR : XRel) (call : Nat → List D → R D) (f : Nat) : Sp := fun vs H Q E => ∃ αs, vs = αs.map A.val ∧ Good K H αs ∧
  (call f (erL αs)).sat (fun d ds => ∀ x αs' H', x.er = d → erL αs' = ds → Bk vs αs' → Stp K (wrL αs) αs H (x :: αs') H' → Q x.val H')
    (fun ex ds => ∀ cls dd αs' H', XR ex cls dd H' → erL αs' = ds → Bk vs αs' → Stp K (wrL αs) αs H αs' H' → E cls dd H')
abbrev B := Option Nat × A
def erB (b : B) : Option Nat × D := (b.1, b.2.er)
def ownB : List B → List A
  | [] => []
  | (none, x) :: r => x :: ownB r
  | (some _, _) :: r => ownB r
inductive VB (σ : St) : List B → List V → Prop
  | nil : VB σ [] []
  | val {x : A} {bs : List B} {vs : List V} : VB σ bs vs → VB σ ((none, x) :: bs) (x.val :: vs)
  | lent {i : Nat} {v : V} {bs : List B} {vs : List V} : σ[i]? = some (some v) → VB σ bs vs → VB σ ((some i, .no) :: bs) (v :: vs)
section
variable {K : PySem.W.Frag} {σ : St} {H : Hp}
theorem Good.perm {Γ Γ' : List A} (g : Good K H Γ) (ho : okL K H Γ') (hf : (footL Γ).Perm (footL Γ')) : Good K H Γ' :=
  g.sub ho ⟨[], by rw [List.append_nil]; exact hf⟩
theorem takeL_ok : ∀ {bs : List B} {vs : List V} {α : List A} {ds : List D} {ρ2 : Env}, VB σ bs vs → Mt σ α → Good K H (ownB bs ++ α) → takeL (bs.map erB) (erL α) = some (ds, ρ2) →
    ∃ αs α2, erL αs = ds ∧ erL α2 = ρ2 ∧ αs.map A.val = vs ∧ Mt σ α2 ∧ okL K H (α2 ++ αs) ∧ (footL (ownB bs ++ α)).Perm (footL (α2 ++ αs))
  | [], _, α, ds, ρ2, .nil, m, g, h => by
    simp [takeL] at h
    obtain ⟨rfl, rfl⟩ := h
    exact ⟨[], α, rfl, rfl, rfl, m, by simpa [ownB] using g.ok, by simp [ownB]⟩
  | _ :: bs, _, α, ds, ρ2, .val (x := x) (vs := vs) hv, m, g, h => by
    simp only [List.map_cons, erB, takeL] at h
    obtain ⟨p, e1, e2⟩ := Option.map_eq_some_iff.mp h
    obtain ⟨ds', ρ'⟩ := p
    cases e2
    have g' : Good K H (ownB bs ++ α) := g.tail
    obtain ⟨αs, α2, a1, a2, a3, a4, a5, a6⟩ := takeL_ok hv m g' e1
    have a5' := okL_append.mp a5
    refine ⟨x :: αs, α2, by rw [erL, a1], a2, by rw [List.map_cons, a3], a4, okL_append.mpr ⟨a5'.1, g.ok.1, a5'.2⟩, ?_⟩
    show (x.foot ++ footL (ownB bs ++ α)).Perm _
    rw [footL_append α2, footL]
    rw [footL_append α2] at a6
    exact (List.Perm.append_left _ a6).trans (by rw [← List.append_assoc, ← List.append_assoc]; exact List.Perm.append_right _ List.perm_append_comm)
  | _ :: bs, _, α, ds, ρ2, .lent (i := i) (v := v) (vs := vs) hi hv, m, g, h => by
    simp only [List.map_cons, erB, takeL] at h
    cases e0 : rd (erL α) i with
    | none => rw [e0] at h; simp at h
    | some d =>
      rw [e0] at h
      simp only at h
      obtain ⟨p, e1, e2⟩ := Option.map_eq_some_iff.mp h
      obtain ⟨ds', ρ'⟩ := p
      cases e2
      obtain ⟨y, y1, y2, y3⟩ := rd_at m e0
      have hval : y.val = v := by rw [y3] at hi; cases hi; rfl
      have eno : (erL α).set i .no = erL (α.set i .no) := by rw [erL_set]; rfl
      rw [eno] at e1
      obtain ⟨l, pl, ql⟩ := footL_set y1
      have p1 : (footL (ownB bs ++ α)).Perm (y.foot ++ footL (ownB bs ++ α.set i .no)) := by
        rw [footL_append, footL_append]
        refine (List.Perm.append_left _ (pl.trans (List.Perm.append_left _ (show l.Perm _ by simpa [A.foot] using (ql .no).symm)))).trans ?_
        rw [← List.append_assoc, ← List.append_assoc]
        exact List.Perm.append_right _ List.perm_append_comm
      have g0 : Good K H (ownB bs ++ α) := g
      have gs : Good K H (ownB bs ++ α.set i .no) :=
        g0.sub (okL_append.mpr ⟨(okL_append.mp g0.ok).1, okL_set (okL_append.mp g0.ok).2 trivial⟩) ⟨y.foot, p1.trans List.perm_append_comm⟩
      obtain ⟨αs, α2, a1, a2, a3, a4, a5, a6⟩ := takeL_ok hv m.set_no gs e1
      have a5' := okL_append.mp a5
      have oy : y.ok K H := okL_iff.mp (okL_append.mp g0.ok).2 y (List.mem_of_getElem? y1)
      refine ⟨y :: αs, α2, by rw [erL, a1, y2], a2, by rw [List.map_cons, a3, hval], a4, okL_append.mpr ⟨a5'.1, oy, a5'.2⟩, ?_⟩
      show (footL (ownB bs ++ α)).Perm _
      refine p1.trans ((List.Perm.append_left _ a6).trans ?_)
      rw [footL_append, footL_append, footL, ← List.append_assoc, ← List.append_assoc]
      exact List.Perm.append_right _ List.perm_append_comm
theorem giveL_ok : ∀ {bs : List B} {vs : List V} {αs' α2 Δ : List A}, VB σ bs vs → Bk vs αs' → Mt σ α2 → Good K H (Δ ++ (αs' ++ α2)) →
    ∃ α3, erL α3 = giveL (bs.map erB) (erL αs') (erL α2) ∧ Mt σ α3 ∧ Good K H (Δ ++ α3) ∧ ∀ a ∈ footL α3, a ∈ footL (αs' ++ α2)
  | [], _, _, α2, Δ, .nil, .nil, m, g => ⟨α2, rfl, m, g, fun a q => q⟩
  | _ :: bs, _, _, α2, Δ, .val (x := x) (vs := vs) hv, .cons (y := y) (ys := ys) hy hb, m, g => by
    have g' : Good K H (Δ ++ (ys ++ α2)) := by
      have go := okL_append.mp g.ok
      refine g.sub (okL_append.mpr ⟨go.1, go.2.2⟩) ⟨y.foot, ?_⟩
      rw [footL_append Δ, footL_append Δ, List.append_assoc]
      exact List.Perm.append_left _ (show (y.foot ++ footL (ys ++ α2)).Perm _ from List.perm_append_comm)
    obtain ⟨α3, a1, a2, a3, a4⟩ := giveL_ok hv hb m g'
    exact ⟨α3, by rw [a1]; rfl, a2, a3, fun a q => List.mem_append_right _ (a4 a q)⟩
  | _ :: bs, _, _, α2, Δ, .lent (i := i) (v := v) (vs := vs) hi hv, .cons (y := y) (ys := ys) hy hb, m, g => by
    have g' : Good K H ((Δ ++ [y]) ++ (ys ++ α2)) := by rw [List.append_assoc]; exact g
    obtain ⟨α3, a1, a2, a3, a4⟩ := giveL_ok hv hb m g'
    rw [List.append_assoc] at a3
    have go := okL_append.mp a3.ok
    refine ⟨α3.set i y, ?_, ?_, ?_, ?_⟩
    · rw [erL_set, a1]; rfl
    · refine ⟨by rw [List.length_set]; exact a2.len, fun j z hz => ?_⟩
      by_cases e : i = j
      · subst e
        by_cases hl : i < α3.length
        · rw [List.getElem?_set_self hl] at hz
          cases hz
          rcases hy with hy | hy
          · exact .inl hy
          · rw [hy]; exact .inr hi
        · rw [List.getElem?_eq_none (by simpa using hl)] at hz; cases hz
      · rw [List.getElem?_set_ne e] at hz
        exact a2.at_ j z hz
    · refine a3.sub (okL_append.mpr ⟨go.1, okL_set go.2.2 go.2.1⟩) ?_
      by_cases hl : i < α3.length
      · obtain ⟨l, pl, ql⟩ := footL_set (α := α3) (i := i) (x := α3[i]) (by simp [hl])
        refine ⟨(α3[i]).foot, ?_⟩
        rw [footL_append Δ, footL_append Δ, List.append_assoc]
        refine List.Perm.append_left _ (show (y.foot ++ footL α3).Perm _ from ?_)
        refine (List.Perm.append_left _ (pl.trans List.perm_append_comm)).trans ?_
        rw [← List.append_assoc]
        exact List.Perm.append_right _ (ql y).symm
      · refine ⟨y.foot, ?_⟩
        rw [List.set_eq_of_length_le (by omega), footL_append Δ, footL_append Δ, List.append_assoc]
        exact List.Perm.append_left _ (show (y.foot ++ footL α3).Perm _ from List.perm_append_comm)
    · intro a ma
      show a ∈ y.foot ++ footL (ys ++ α2)
      obtain ⟨z, mz, za⟩ := mem_footL.mp ma
      rcases List.mem_or_eq_of_mem_set mz with q | q
      · exact List.mem_append_right _ (a4 a (mem_footL.mpr ⟨z, q, za⟩))
      · subst q; exact List.mem_append_left _ za
end
section
variable {X : Cx} {gl : Nat → Option D} {call : Nat → List D → R D} {XR : XRel} {W : WX}
/-- arguments of a call -/
def tAs (K : PySem.W.Frag) (gl : Nat → Option D) (call : Nat → List D → R D) (XR : XRel) (W : WX) (es : Ev.Es) : TA := fun σ H Q => ∃ α, Mt σ α ∧ Good K H α ∧
  (evAs gl call es (erL α)).sat (fun as ρ => ∀ bs vs α' H', bs.map erB = as → erL α' = ρ → Mt σ α' → VB σ bs vs → Stp K (wrL α) α H (ownB bs ++ α') H' → Q vs H') (EX K XR W σ α H)
theorem s_nilA : PA X [] (tAs X.K gl call XR W .nil) := impA pa_nil fun σ H Q q => by
  obtain ⟨α, m, g, s⟩ := q
  exact s [] [] α H rfl rfl m .nil (Stp.refl g)
theorem EX.onF {K : PySem.W.Frag} {σ : St} {α α1 : List A} {H H1 : Hp} (s : Stp K (wrL α) α H α1 H1) {x : Ex} {ρ : Env} (h : EX K XR W σ α H x ρ) : EX K XR W σ α1 H1 x ρ :=
  fun cls dd α' H' r e m t => h cls dd α' H' r e m (s.trans t s.wsub)
theorem s_consA {e : Ev.E} {es : Ev.Es} {ex : Expr} {exs : List Expr} (hl : e.lent? = none) (he : SE X gl call XR W e ex) (hes : PA X exs (tAs X.K gl call XR W es)) (hp : plainE ex = true) : PA X (ex :: exs) (tAs X.K gl call XR W (.cons e es)) := by
  refine impA (pa_cons he.v hes (starCons hp)) fun σ H Q q => ?_
  obtain ⟨α, m, g, s⟩ := q
  have eqA : evAs gl call (.cons e es) (erL α) = (evM gl call e .v (erL α)).bind fun d ρ1 => (evAs gl call es ρ1).bind fun ds ρ2 => R.ok ((none, d) :: ds) ρ2 := by
    show (match e.lent? with | some i => _ | none => _) = _
    rw [hl]
  rw [eqA] at s
  refine oneV m g s (fun _ _ z => z) fun x α1 H1 m1 st1 s1 => ?_
  have st1' : Stp X.K (Wof e.quiet α) α H α1 H1 := Stp.right (Δ := [x]) st1
  refine ⟨α1, m1, st1'.good, sat_mono (sat_bind.mp s1) (fun as ρ f bs vs α2 H2 e1 e2 m2 vb st2 => ?_) fun _ _ z => EX.on st1' z⟩
  subst e1 e2
  refine f ((none, x) :: bs) (x.val :: vs) α2 H2 rfl rfl m2 (.val vb) ?_
  exact (st1.mono Wof_sub).trans (Stp.frame (Δ := [x]) st1.good st2 fun _ q => q) fun a q => st1'.wsub a q
theorem s_lentA {i : Nat} {es : Ev.Es} {x : Str} {pos : Pos} {exs : List Expr} (hN : X.N[i]? = some x) (hv : Vis X.env.scope x) (hd : (x == ("__debug__" : Str)) = false) (hcd : (x == ("__classdict__" : Str)) = false) (hes : PA X exs (tAs X.K gl call XR W es)) :
    PA X (.Name x pos :: exs) (tAs X.K gl call XR W (.cons (.lend i) es)) := by
  refine impA (pa_cons (pe_var hN hv hd hcd) hes (starCons rfl)) fun σ H Q q => ?_
  obtain ⟨α, m, g, s⟩ := q
  obtain ⟨d, ed, s⟩ := sat_opt.mp s
  obtain ⟨y, y1, y2, y3⟩ := rd_at m ed
  refine ⟨_, y3, α, m, g, sat_mono (sat_bind.mp s) (fun as ρ f bs vs α2 H2 e1 e2 m2 vb st2 => ?_) fun _ _ z => z⟩
  subst e1 e2
  exact f ((some i, .no) :: bs) (y.val :: vs) α2 H2 rfl rfl m2 (.lent y3 vb) st2
/-- a def of the text, known to the evaluator -/
structure FnAt (X : Cx) (XR : XRel) (call : Nat → List D → R D) (f : Nat) (x : Str) : Prop where
  ex : ∃ (k : Nat) (a : Addr) (fd : FuncData) (ps : List Str), X.mg x = some (.ref a) ∧ PySem.W.keepIn X.K (.ref a) = true ∧ Binds X.K fd ps [] ∧ FnOk X.prog X.w X.K X.mg X.base (L2.CX X.prog X.w) k a fd ps (spC X.K XR call f) ∧ Room k X.A
theorem pe_call0S {CX : CXT} {k : Nat} {f : Addr} {fd : FuncData} {ps : List Str} {sp : Sp} {E : L2.St → XK} {x : Str} {p pos : Pos} (F : FnOk X.prog X.w X.K X.mg X.base CX k f fd ps sp) (hr : Room k X.A) (hg : Gl X x) (hm : X.mg x = some (.ref f)) (hk : PySem.W.keepIn X.K (.ref f) = true)
    (hb : Binds X.K fd ps []) (hx : ∀ σ, PassesAt CX X σ (E σ)) (hdb : (x == ("__debug__" : Str)) = false) : PE X (.Call (.Name x p) [] [] pos) (tCallS sp E tNil) := by
  refine ⟨fun pins s σ H Q I h => ?_⟩
  refine wpAny_Call_Name_kw (ld_glob I hg hm ?_ hdb)
  exact PySem.W.callWith_K0 I.kIn hk (run_fnS (us := []) F hr hb (hx σ) I .nil h)
/-- the heart of a call -/
theorem call_core {σ : St} {α : List A} {H : Hp} {Q : VK} {f : Nat} {bs : List B} {vs : List V} {α1 : List A} {H1 : Hp} {K : PySem.W.Frag} (m1 : Mt σ α1) (vb : VB σ bs vs) (st1 : Stp K (wrL α) α H (ownB bs ++ α1) H1)
    (s : (callR call f (bs.map erB) (erL α1)).sat (fun d ρ => ∀ x α' H', x.er = d → erL α' = ρ → Mt σ α' → Stp K (wrL α) α H (x :: α') H' → Q x.val H') (EX K XR W σ α H)) : spC K XR call f vs H1 Q (WE W σ) := by
  obtain ⟨q, eq, s⟩ := sat_opt.mp s
  obtain ⟨ds, ρ2⟩ := q
  obtain ⟨αs, α2, a1, a2, a3, a4, a5, a6⟩ := takeL_ok vb m1 st1.good eq
  subst a1 a2
  have g2 : Good K H1 (α2 ++ αs) := st1.good.perm a5 a6
  have gs : Good K H1 αs := g2.right
  have st2 : Stp K (wrL α) α H (α2 ++ αs) H1 := st1.trans (W' := wrL α) (stp_same g2 fun a m => a6.mem_iff.mpr m) fun a m => .inl m
  have wsub : ∀ a ∈ wrL αs, a ∈ wrL α ∨ H a = none := fun a m => st2.wsub a (mem_wrL.mpr (by rw [footL_append]; exact List.mem_append_right _ (mem_wrL.mp m)))
  refine ⟨αs, a3.symm, gs, ?_⟩
  cases hc : call f (erL αs) with
  | st => rw [hc] at s; exact s
  | ok d ds' =>
    rw [hc] at s
    intro x αs' H2 e1 e2 bk st3
    subst e1 e2
    have st4 := Stp.frame (Δ := α2) g2 st3 (fun _ q => q)
    have g4 : Good K H2 ([x] ++ (αs' ++ α2)) := by
      have go := okL_append.mp st4.good.ok
      refine st4.good.perm (show okL K H2 (x :: (αs' ++ α2)) from ⟨go.2.1, okL_append.mpr ⟨go.2.2, go.1⟩⟩) ?_
      rw [footL_append]
      show (footL α2 ++ (x.foot ++ footL αs')).Perm (x.foot ++ footL (αs' ++ α2))
      rw [footL_append]
      exact List.perm_append_comm.trans (by rw [List.append_assoc])
    obtain ⟨α3, b1, b2, b3, b4⟩ := giveL_ok vb bk a4 g4
    refine s x α3 H2 rfl b1 b2 (st2.trans (W' := wrL αs) ⟨b3, st4.fr, fun a m => ?_⟩ wsub)
    rcases List.mem_append.mp (show a ∈ x.foot ++ footL α3 from m) with m | m
    · exact st4.ft a (by rw [footL_append]; exact List.mem_append_right _ (List.mem_append_left _ m))
    · refine st4.ft a ?_
      have := b4 a m
      rw [footL_append] at this ⊢
      rcases List.mem_append.mp this with m | m
      · exact List.mem_append_right _ (List.mem_append_right _ m)
      · exact List.mem_append_left _ m
  | rz ex ds' =>
    rw [hc] at s
    intro cls dd αs' H2 xr e2 bk st3
    subst e2
    have st4 := Stp.frame (Δ := α2) g2 st3 (fun _ q => q)
    have g4 : Good K H2 ([] ++ (αs' ++ α2)) := by
      have go := okL_append.mp st4.good.ok
      refine st4.good.perm (show okL K H2 (αs' ++ α2) from okL_append.mpr ⟨go.2, go.1⟩) ?_
      rw [footL_append, List.nil_append, footL_append]
      exact List.perm_append_comm
    obtain ⟨α3, b1, b2, b3, b4⟩ := giveL_ok vb bk a4 g4
    refine s cls dd α3 H2 xr b1 b2 (st2.trans (W' := wrL αs) ⟨b3, st4.fr, fun a m => st4.ft a ?_⟩ wsub)
    have := b4 a m
    rw [footL_append] at this ⊢
    exact (List.mem_append.mp this).elim (List.mem_append_right _) (List.mem_append_left _)
theorem s_call {f : Nat} {es : Ev.Es} {exs : List Expr} {x : Str} {p pos : Pos} (tk : Takes X W) (F : FnAt X XR call f x) (h0 : exs = [] → es = .nil) (h : PA X exs (tAs X.K gl call XR W es)) (hp : exs.all plainE = true) (hg : Gl X x) (hd : (x == ("__debug__" : Str)) = false) :
    SE X gl call XR W (.call f es) (.Call (.Name x p) exs [] pos) := by
  obtain ⟨k, a, fd, ps, hm, hk, hb, FO, hr⟩ := F.ex
  have core : ∀ {t : TA}, (∀ σ H Q, tAs X.K gl call XR W es σ H Q → t σ H Q) → ∀ σ H Q, tV X.K gl call XR W (.call f es) σ H Q → tCallS (spC X.K XR call f) (WE W) t σ H Q := by
    intro t ht σ H Q q
    obtain ⟨α, m, g, s⟩ := q
    refine ht σ H _ ⟨α, m, g, sat_mono (sat_bind.mp s) (fun as ρ f bs vs α1 H1 e1 e2 m1 vb st1 => ?_) fun _ _ z => z⟩
    subst e1 e2
    exact call_core m1 vb st1 f
  have hP : PE X (.Call (.Name x p) exs [] pos) (tV X.K gl call XR W (.call f es)) := by
    cases exs with
    | nil =>
      refine impE (pe_call0S FO hr hg hm hk hb (passAt tk) hd) (core fun σ H Q q => ?_)
      rw [h0 rfl] at q
      obtain ⟨α, m, g, s⟩ := q
      exact s [] [] α H rfl rfl m .nil (Stp.refl g)
    | cons e exs =>
      rw [List.all_cons, Bool.and_eq_true] at hp
      exact impE (pe_callS FO hr hg hm hk hb (passAt tk) h hd (starCons hp.1) (starAny hp.2 pos)) (core fun _ _ _ q => q)
  exact SE.temp hP rfl (fun _ => rfl) (fun _ => rfl) fun _ _ => rfl
end
end Ev
end

section
set_option Elab.async false
set_option linter.all false
set_option maxRecDepth 100000
/-! EvB9: targets, what is walked. -/
namespace Ev
open PySem L2
/-- slots that may not be stored stay -/
def KeepS (ok : Nat → Bool) (σ σ' : L2.St) : Prop := σ'.length = σ.length ∧ ∀ i, ok i = false → σ'[i]? = σ[i]?
theorem KeepS.refl {ok : Nat → Bool} {σ : L2.St} : KeepS ok σ σ := ⟨rfl, fun _ _ => rfl⟩
theorem KeepS.trans {ok : Nat → Bool} {σ σ1 σ2 : L2.St} (a : KeepS ok σ σ1) (b : KeepS ok σ1 σ2) : KeepS ok σ σ2 := ⟨b.1.trans a.1, fun i h => (b.2 i h).trans (a.2 i h)⟩
/-- a value stored into a slot -/
theorem Good.store {K : PySem.W.Frag} {H : Hp} {α : List A} {i : Nat} {x : A} (g : Good K H (x :: α)) (hi : i < α.length) : Good K H (α.set i x) ∧ ∀ p ∈ footL (α.set i x), p ∈ footL (x :: α) := by
  obtain ⟨l, pl, ql⟩ := footL_set (α := α) (i := i) (x := α[i]) (by simp [hi])
  have pp : (footL (x :: α)).Perm (footL (α.set i x) ++ (α[i]).foot) := by
    show (x.foot ++ footL α).Perm _
    refine (List.Perm.append_left _ (pl.trans List.perm_append_comm)).trans ?_
    rw [← List.append_assoc]
    exact List.Perm.append_right _ (ql x).symm
  exact ⟨g.sub (okL_set g.ok.2 g.ok.1) ⟨_, pp⟩, fun p m => pp.mem_iff.mpr (List.mem_append_left _ m)⟩
theorem Mt.store {σ : L2.St} {α : List A} {i : Nat} {x : A} (m : Mt σ α) : Mt (σ.set i (some x.val)) (α.set i x) := by
  refine ⟨by rw [List.length_set, List.length_set]; exact m.len, fun j z h => ?_⟩
  by_cases e : i = j
  · subst e
    by_cases hl : i < α.length
    · rw [List.getElem?_set_self hl] at h
      cases h
      rw [List.getElem?_set_self (by rw [m.len]; exact hl)]
      exact .inr rfl
    · rw [List.getElem?_eq_none (by simpa using hl)] at h; cases h
  · rw [List.getElem?_set_ne e] at h ⊢
    exact m.at_ j z h
section
variable (K : PySem.W.Frag) (ok : Nat → Bool)
def tG (tg : Tg) : TG := fun v σ H Q => ∃ x α ρ, v = x.val ∧ Mt σ α ∧ Good K H (x :: α) ∧ stT ok tg x.er (erL α) = some ρ ∧
  ∀ σ' α', erL α' = ρ → Mt σ' α' → Good K H α' → (∀ p ∈ footL α', p ∈ footL (x :: α)) → KeepS ok σ σ' → Q σ' H
def tGs (ts : Tgs) : TGs := fun vs σ H Q => ∃ xs α ρ, vs = xs.map A.val ∧ Mt σ α ∧ Good K H (xs ++ α) ∧ stTs ok ts (erL xs) (erL α) = some ρ ∧
  ∀ σ' α', erL α' = ρ → Mt σ' α' → Good K H α' → (∀ p ∈ footL α', p ∈ footL (xs ++ α)) → KeepS ok σ σ' → Q σ' H
end
theorem impG {X : Cx} {ex : Expr} {t t' : TG} (h : PG X ex t) (f : ∀ v σ H Q, t' v σ H Q → t v σ H Q) : PG X ex t' :=
  ⟨fun pins s σ H v u Q I r q => h.run pins s σ H v u Q I r (f v σ H Q q)⟩
theorem impGs {X : Cx} {ex : List Expr} {t t' : TGs} (h : PGs X ex t) (f : ∀ v σ H Q, t' v σ H Q → t v σ H Q) : PGs X ex t' :=
  ⟨fun pins s σ H v u Q I r q => h.run pins s σ H v u Q I r (f v σ H Q q)⟩
section
variable {X : Cx} {ok : Nat → Bool}
theorem s_nm {i : Nat} {x : Str} {pos : Pos} (hN : X.N.Nodup) (hi : X.N[i]? = some x) (hx : Loc X.env.scope x) (hf : X.fn x = true ∨ X.env.scope.names.lookup x = some .local) : PG X (.Name x pos) (tG X.K ok (.nm i)) := by
  refine impG (pg_name hN hi hx hf) fun v σ H Q q => ?_
  obtain ⟨y, α, ρ, rfl, m, g, s, k⟩ := q
  simp only [stT] at s
  split at s
  · rename_i c
    cases s
    rw [erL_length] at c
    have gs := g.store c.1
    refine k _ (α.set i y) (erL_set _ _ _) m.store gs.1 gs.2 ⟨by rw [List.length_set], fun j hj => ?_⟩
    have : i ≠ j := fun e => by subst e; rw [c.2] at hj; cases hj
    exact List.getElem?_set_ne this
  · cases s
theorem assignCons {e : Expr} {es : List Expr} {env : PySem.Env} (h : plainE e = true) : (assignEach (e :: es) env).map (·.2) = assign e env :: (assignEach es env).map (·.2) := by
  cases e <;> first | rfl | (simp [plainE] at h)
theorem assignLen {es : List Expr} {env : PySem.Env} : (assignEach es env).length = es.length := by
  induction es with
  | nil => rfl
  | cons e es ih => cases e <;> (show (_ :: assignEach es env).length = _; rw [List.length_cons, ih]; rfl)
theorem assignNone {es : List Expr} {env : PySem.Env} (h : es.all plainE = true) : (assignEach es env).findIdx? (·.1) = none := by
  have f : ∀ es : List Expr, es.all plainE = true → ∀ p ∈ assignEach es env, p.1 = false := by
    intro es
    induction es with
    | nil => intro _ p m; cases m
    | cons e es ih =>
      intro h p m
      rw [List.all_cons, Bool.and_eq_true] at h
      have : assignEach (e :: es) env = (false, assign e env) :: assignEach es env := by
        cases e <;> first | rfl | (simp [plainE] at h)
      rw [this] at m
      rcases List.mem_cons.mp m with q | q
      · rw [q]
      · exact ih h.2 p q
  rw [List.findIdx?_eq_none_iff]
  exact fun p m => f es h p m
theorem s_nilG : PGs X [] (tGs X.K ok .nil) := impGs pgs_nil fun vs σ H Q q => by
  obtain ⟨xs, α, ρ, rfl, m, g, s, k⟩ := q
  cases xs with
  | cons x xs => simp [erL, stTs] at s
  | nil =>
    simp [erL, stTs] at s
    exact ⟨rfl, k σ α s m g (fun _ h => h) .refl⟩
theorem s_consG {t : Tg} {ts : Tgs} {e : Expr} {es : List Expr} (h1 : PG X e (tG X.K ok t)) (h2 : PGs X es (tGs X.K ok ts)) (hp : plainE e = true) : PGs X (e :: es) (tGs X.K ok (.cons t ts)) := by
  refine impGs (pgs_cons h1 h2 (assignCons hp)) fun vs σ H Q q => ?_
  obtain ⟨xs, α, ρ, rfl, m, g, s, k⟩ := q
  cases xs with
  | nil => simp [erL, stTs] at s
  | cons x xs =>
    simp only [erL, stTs] at s
    obtain ⟨ρ1, e1, e2⟩ := Option.bind_eq_some_iff.mp s
    have g0 : Good X.K H (x :: (xs ++ α)) := g
    -- the first one is stored; the others wait beside
    have g1 : Good X.K H (x :: α) := by
      refine g0.sub ⟨g0.ok.1, (okL_append.mp g0.ok.2).2⟩ ⟨footL xs, ?_⟩
      show (x.foot ++ footL (xs ++ α)).Perm _
      rw [footL_append]
      show (x.foot ++ (footL xs ++ footL α)).Perm ((x.foot ++ footL α) ++ footL xs)
      rw [List.append_assoc]
      exact List.Perm.append_left _ List.perm_append_comm
    refine ⟨x.val, xs.map A.val, rfl, x, α, ρ1, rfl, m, g1, e1, fun σ1 α1 a1 m1 gg sub kp => ?_⟩
    subst a1
    have g2 : Good X.K H (xs ++ α1) := by
      have gf : Good X.K H (xs ++ (x :: α)) := by
        refine g0.sub (okL_append.mpr ⟨(okL_append.mp g0.ok.2).1, g0.ok.1, (okL_append.mp g0.ok.2).2⟩) ⟨[], ?_⟩
        rw [List.append_nil, footL_append]
        show (x.foot ++ footL (xs ++ α)).Perm (footL xs ++ (x.foot ++ footL α))
        rw [footL_append, ← List.append_assoc, ← List.append_assoc]
        exact List.Perm.append_right _ List.perm_append_comm
      exact (Stp.frame (W := []) gf (stp_same gg sub) (by simp)).good
    refine ⟨xs, α1, ρ, rfl, m1, g2, e2, fun σ2 α2 b1 b2 b3 b4 b5 => k σ2 α2 b1 b2 b3 (fun p mp => ?_) (kp.trans b5)⟩
    have := b4 p mp
    rw [footL_append] at this
    show p ∈ x.foot ++ footL (xs ++ α)
    rw [footL_append]
    rcases List.mem_append.mp this with h | h
    · exact List.mem_append_right _ (List.mem_append_left _ h)
    · rcases List.mem_append.mp (show p ∈ x.foot ++ footL α from sub p h) with h | h
      · exact List.mem_append_left _ h
      · exact List.mem_append_right _ (List.mem_append_right _ h)
theorem s_tupG {ts : Tgs} {es : List Expr} {k : Nat} {pos : Pos} (hc : X.calm = true) (h : PGs X es (tGs X.K ok ts)) (hp : es.all plainE = true) (hl : es.length = ts.len) : PG X (.Tuple es k pos) (tG X.K ok (.tup ts)) := by
  refine impG (pg_tup (n := es.length) hc h assignLen (assignNone hp)) fun v σ H Q q => ?_
  obtain ⟨x, α, ρ, rfl, m, g, s, kk⟩ := q
  simp only [stT] at s
  split at s
  · rename_i ds e
    obtain ⟨a, xs, rfl, rfl⟩ := er_tup e
    split at s
    · rename_i hn
      have hx := g.ok.1
      rw [A.ok] at hx
      have g2 : Good X.K H (xs ++ α) := by
        refine g.sub (okL_append.mpr ⟨hx.2.2, g.ok.2⟩) ⟨[], ?_⟩
        rw [List.append_nil, footL_append]
        exact .refl _
      refine ⟨a, _, rfl, hx.1, by rw [List.length_map, ← erL_length, hn, hl], xs, α, ρ, rfl, m, g2, s, fun σ' α' a1 a2 a3 a4 a5 => kk σ' α' a1 a2 a3 (fun p mp => ?_) a5⟩
      have := a4 p mp
      rw [footL_append] at this
      exact this
    · cases s
  · cases s
end

/-! ### what is walked -/
structure Walk (K : PySem.W.Frag) (J : L2.It) (xs : List A) (src : A) (α1 : List A) (H1 : Hp) : Prop where
  wk : ∀ i H, src.ok K H → (∀ x, xs[i]? = some x → J.go i H ∧ ∀ v H', J.yld i H v H' → H' = H ∧ v = x.val) ∧ (xs.length ≤ i → J.stop i H)
  ok : src.ok K H1
  ap : ∀ p ∈ src.foot, p.2 ∉ wrL α1
  oks : okL K H1 xs
  imm : D.immL (erL xs) = true
  len : xs.length ≤ line
theorem Walk.on {K : PySem.W.Frag} {J : L2.It} {xs : List A} {src : A} {α1 αk : List A} {H1 Hk : Hp} (w : Walk K J xs src α1 H1) (g : Good K H1 α1) (s : Stp K (wrL α1) α1 H1 αk Hk) : src.ok K Hk ∧ okL K Hk xs :=
  ⟨ok_fr s.fr g.wr src w.ok w.ap, ok_frL s.fr g.wr xs w.oks (by rw [imm_footL xs w.imm]; simp)⟩
/-- what is frozen while it is walked -/
def Froz (K : PySem.W.Frag) (α : List A) (H : Hp) (fz : Option Nat) (α1 : List A) (H1 : Hp) : Prop :=
  (fz = none ∧ Stp K (wrL α) α H α1 H1) ∨
    ∃ i a ys α0, fz = some i ∧ Stp K (wrL α) α H α0 H1 ∧ α0[i]? = some (.lst a ys) ∧ D.immL (erL ys) = true ∧ α1 = α0.set i (.rol a ys)
theorem thaw_ok {K : PySem.W.Frag} {σ σk : L2.St} {α α1 αk Δ : List A} {H H1 Hk : Hp} {fz : Option Nat} {ρ' : Env} (F : Froz K α H fz α1 H1) (g1 : Good K H1 α1) (m1 : Mt σ α1) (st : Stp K (wrL α1) α1 H1 (Δ ++ αk) Hk) (mk : Mt σk αk)
    (kp : ∀ i, fz = some i → σk[i]? = σ[i]?) (h : thaw fz (erL αk) = some ρ') : ∃ α', erL α' = ρ' ∧ Mt σk α' ∧ Stp K (wrL α) α H (Δ ++ α') Hk := by
  rcases F with ⟨rfl, s0⟩ | ⟨i, a, ys, α0, rfl, s0, hi, im, rfl⟩
  · cases h
    exact ⟨αk, rfl, mk, s0.trans st s0.wsub⟩
  · simp only [thaw] at h
    split at h
    · rename_i ds e
      cases h
      rw [erL_map, List.getElem?_map] at e
      obtain ⟨z, ez, e2⟩ := Option.map_eq_some_iff.mp e
      obtain ⟨a', ys', rfl⟩ : ∃ a' ys', z = .rol a' ys' := by
        cases z <;> simp [A.er] at e2
        exact ⟨_, _, rfl⟩
      have e2 : erL ys' = ds := by simpa [A.er] using e2
      have hlen : i < α0.length := (List.getElem?_eq_some_iff.mp hi).1
      have h1 : (α0.set i (.rol a ys))[i]? = some (.rol a ys) := List.getElem?_set_self hlen
      have v1 : σ[i]? = some (some (.ref a)) := (m1.at_ i _ h1).resolve_left (by simp)
      have v2 : σk[i]? = some (some (.ref a')) := (mk.at_ i _ ez).resolve_left (by simp)
      have ea : a' = a := by
        rw [kp i rfl, v1] at v2
        cases v2; rfl
      subst ea
      -- the list itself
      have o0 := okL_iff.mp s0.good.ok _ (List.mem_of_getElem? hi)
      rw [A.ok] at o0
      obtain ⟨l1, p1, q1⟩ := footL_set hi
      have i0 := imm_footL ys im
      have n1 : a' ∉ wrL (α0.set i (.rol a' ys)) := by
        intro m
        have m := mem_wrL.mp m
        have nd := g1.nd
        have pq := ((q1 (.rol a' ys)).map (·.2)).nodup_iff.mp nd
        rcases List.mem_append.mp ((q1 (.rol a' ys)).mem_iff.mp m) with z | z
        · simp [A.foot] at z
        · simp only [A.foot, List.cons_append, List.nil_append, List.map_cons] at pq
          exact (List.nodup_cons.mp pq).1 (List.mem_map.mpr ⟨_, z, rfl⟩)
      have hk : Hk a' = some (.lst (ys.map A.val)) := st.fr.1 a' _ o0.1 n1
      have ok' := okL_iff.mp (okL_append.mp st.good.ok).2 _ (List.mem_of_getElem? ez)
      rw [A.ok] at ok'
      have hk' : Hk a' = some (.lst (ys'.map A.val)) := by
        rcases ok'.1 with z | ⟨o, z⟩
        · exact z
        · rw [hk] at z; cases z
      have lk : i < αk.length := (List.getElem?_eq_some_iff.mp ez).1
      obtain ⟨lk0, pk, qk⟩ := footL_set ez
      have ik := imm_footL ys' ok'.2.2.2
      obtain ⟨lk', elk⟩ : ∃ lk', lk' = footL Δ ++ lk0 := ⟨_, rfl⟩
      have pk' : (footL (Δ ++ αk)).Perm ((false, a') :: lk') := by
        have z : (footL αk).Perm ((false, a') :: lk0) := by simpa [A.foot] using pk
        rw [footL_append, elk]
        exact (List.Perm.append_left _ z).trans List.perm_middle
      have qk' : (footL (Δ ++ αk.set i (.lst a' ys'))).Perm ((true, a') :: lk') := by
        have z : (footL (αk.set i (.lst a' ys'))).Perm ((true, a') :: lk0) := by simpa [A.foot, ik] using qk (.lst a' ys')
        rw [footL_append, elk]
        exact (List.Perm.append_left _ z).trans List.perm_middle
      refine ⟨αk.set i (.lst a' ys'), by rw [erL_set, ← e2]; rfl, ?_, ⟨okL_append.mpr ⟨(okL_append.mp st.good.ok).1, okL_set (okL_append.mp st.good.ok).2 ⟨hk', ok'.2.1, ok'.2.2.1⟩⟩, ?_⟩, s0.fr.trans st.fr fun b m => ?_, fun p m => ?_⟩
      · refine ⟨by rw [List.length_set]; exact mk.len, fun j z hz => ?_⟩
        by_cases e : i = j
        · subst e
          rw [List.getElem?_set_self lk] at hz
          cases hz
          exact .inr v2
        · rw [List.getElem?_set_ne e] at hz
          exact mk.at_ j z hz
      · refine (qk'.map (·.2)).nodup_iff.mpr ?_
        exact (pk'.map (·.2)).nodup_iff.mp st.good.nd
      · have m := mem_wrL.mp m
        rcases List.mem_append.mp ((q1 (.rol a' ys)).mem_iff.mp m) with z | z
        · simp [A.foot] at z
        · exact s0.wsub b (mem_wrL.mpr (p1.mem_iff.mpr (List.mem_append_right _ z)))
      · have base : ∀ p ∈ footL α0, p ∈ footL α ∨ H p.2 = none := s0.ft
        rcases List.mem_cons.mp (qk'.mem_iff.mp m) with z | z
        · subst z
          exact base _ (p1.mem_iff.mpr (by simp [A.foot]))
        · have nd := (pk'.map (·.2)).nodup_iff.mp st.good.nd
          have ne : p.2 ≠ a' := fun e => (List.nodup_cons.mp nd).1 (List.mem_map.mpr ⟨p, z, e⟩)
          rcases st.ft p (pk'.mem_iff.mpr (List.mem_cons_of_mem _ z)) with w | w
          · rcases List.mem_append.mp ((q1 (.rol a' ys)).mem_iff.mp w) with z | z
            · have : p = (false, a') := by simpa [A.foot] using z
              exact absurd (by rw [this]) ne
            · exact base p (p1.mem_iff.mpr (List.mem_append_right _ z))
          · cases e : H p.2 with
            | none => exact .inr rfl
            | some o => exact absurd w (s0.fr.2 p.2 (by rw [e]; simp))
    · cases h
/-- the reading of what is walked -/
def tI (K : PySem.W.Frag) (gl : Nat → Option D) (call : Nat → List D → R D) (XR : XRel) (W : WX) (it : Ev.It) : TI := fun σ H R => ∃ α, Mt σ α ∧ Good K H α ∧
  (evI gl call it (erL α)).sat (fun q ρ => ∀ J xs src α1 H1, erL xs = q.1 → Walk K J xs src α1 H1 → Froz K α H q.2 α1 H1 → erL α1 = ρ → Mt σ α1 → Good K H1 α1 → R J H1) (EX K XR W σ α H)
theorem impI {X : Cx} {tg ex : Expr} {t t' : TI} (h : PI X tg ex t) (f : ∀ σ H R, t' σ H R → t σ H R) : PI X tg ex t' :=
  ⟨fun pins s σ H R I q => h.run pins s σ H R I (f σ H R q)⟩
theorem PI.or {X : Cx} {tg ex : Expr} {t t' : TI} (h : PI X tg ex t) (h' : PI X tg ex t') : PI X tg ex (fun σ H R => t σ H R ∨ t' σ H R) :=
  ⟨fun pins s σ H R I q => q.elim (h.run pins s σ H R I) (h'.run pins s σ H R I)⟩
theorem walk_rng {K : PySem.W.Frag} {α1 : List A} {H1 : Hp} (lo : Int) (n : Nat) (h : n ≤ line) : Walk K (Itr lo n) ((List.range n).map fun (k : Nat) => A.int (lo + (k : Int))) .non α1 H1 := by
  refine ⟨fun i H _ => ⟨fun x hx => ?_, fun hi => ?_⟩, trivial, by simp [A.foot], ?_, ?_, by simpa using h⟩
  · rw [List.getElem?_map] at hx
    obtain ⟨k, ek, rfl⟩ := Option.map_eq_some_iff.mp hx
    obtain ⟨hk, e⟩ := List.getElem?_eq_some_iff.mp ek
    rw [List.getElem_range] at e
    subst e
    rw [List.length_range] at hk
    exact ⟨hk, fun v H' y => y⟩
  · have : n ≤ i := by simpa using hi
    exact this
  · rw [okL_iff]
    intro x hx
    obtain ⟨k, _, rfl⟩ := List.mem_map.mp hx
    trivial
  · rw [immL_iff]
    intro d hd
    rw [erL_map, List.map_map] at hd
    obtain ⟨k, _, rfl⟩ := List.mem_map.mp hd
    rfl
theorem rngL_er (i j : Int) : rngL i j = erL ((List.range (j - i).toNat).map fun (k : Nat) => A.int (i + (k : Int))) := by
  rw [erL_map, List.map_map]; rfl
/-- a list or a tuple that stands still -/
theorem walk_seqL {K : PySem.W.Frag} {α1 : List A} {H1 : Hp} {x : A} {a : Addr} {xs : List A} (h : x = .lst a xs ∨ x = .rol a xs ∨ x = .kol a xs) (ok : x.ok K H1) (ap : ∀ p ∈ x.foot, p.2 ∉ wrL α1) (im : D.immL (erL xs) = true) : Walk K (Itl K a) xs x α1 H1 := by
  have o := A.seqL ok h
  refine ⟨fun i H hx => ?_, ok, ap, o.2.2.2, im, o.2.2.1⟩
  have q := (A.seqL hx h).2.1
  refine ⟨fun y hy => ⟨⟨_, y.val, q, by rw [List.getElem?_map, hy]; rfl⟩, fun v H' z => ⟨z.1, ?_⟩⟩, fun hi => ⟨_, q, by rw [List.length_map]; exact hi⟩⟩
  have := z.2 _ q
  rw [List.getElem?_map, hy] at this
  cases this; rfl
theorem walk_seqT {K : PySem.W.Frag} {α1 : List A} {H1 : Hp} {a : Addr} {xs : List A} (ok : (A.tup a xs).ok K H1) (im : D.immL (erL xs) = true) : Walk K (Itt K a) xs (.tup a xs) α1 H1 := by
  have o := ok
  rw [A.ok] at o
  refine ⟨fun i H hx => ?_, ok, by simp [A.foot, imm_footL xs im], o.2.2, im, o.2.1⟩
  rw [A.ok] at hx
  refine ⟨fun y hy => ⟨⟨_, y.val, hx.1, by rw [List.getElem?_map, hy]; rfl⟩, fun v H' z => ⟨z.1, ?_⟩⟩, fun hi => ⟨_, hx.1, by rw [List.length_map]; exact hi⟩⟩
  have := z.2 _ hx.1
  rw [List.getElem?_map, hy] at this
  cases this; rfl
theorem items_er {x : A} {ds : List D} (h : items x.er = some ds) : ∃ a xs, erL xs = ds ∧ D.immL ds = true ∧ (x = .tup a xs ∨ x = .lst a xs ∨ x = .rol a xs ∨ x = .kol a xs) ∨ ∃ s, x = .str s := by
  cases x with
  | no => simp [A.er, items] at h
  | non => simp [A.er, items] at h
  | bl b => simp [A.er, items] at h
  | int b => simp [A.er, items] at h
  | str s => exact ⟨0, [], .inr ⟨s, rfl⟩⟩
  | tup a xs =>
    simp only [A.er, items] at h
    split at h
    · cases h; exact ⟨a, xs, .inl ⟨rfl, by assumption, .inl rfl⟩⟩
    · cases h
  | lst a xs =>
    simp only [A.er, items] at h
    split at h
    · cases h; exact ⟨a, xs, .inl ⟨rfl, by assumption, .inr (.inl rfl)⟩⟩
    · cases h
  | rol a xs =>
    simp only [A.er, items] at h
    split at h
    · cases h; exact ⟨a, xs, .inl ⟨rfl, by assumption, .inr (.inr (.inl rfl))⟩⟩
    · cases h
  | kol a xs =>
    simp only [A.er, items] at h
    split at h
    · cases h; exact ⟨a, xs, .inl ⟨rfl, by assumption, .inr (.inr (.inr rfl))⟩⟩
    · cases h
end Ev
end

section
set_option Elab.async false
set_option linter.all false
set_option maxRecDepth 100000
/-! EvB10: what a loop walks. -/
namespace Ev
open PySem L2
section
variable {X : Cx} {gl : Nat → Option D} {call : Nat → List D → R D} {XR : XRel} {W : WX} {tg : Expr}
theorem int?_some {d : D} {j : Int} (h : d.int? = some j) : d = .int j := by cases d <;> simp [D.int?] at h <;> rw [h]
theorem Stp.asF {K : PySem.W.Frag} {q : Bool} {α Γ : List A} {H H1 : Hp} (s : Stp K (Wof q α) α H Γ H1) : Stp K (wrL α) α H Γ H1 := s.mono Wof_sub
theorem s_rng1 {e : Ev.E} {a : Expr} {p pos : Pos} (hg : Gl X "range") (hm : X.mg "range" = none) (he : SE X gl call XR W e a) (hp : plainE a = true) : PI X tg (.Call (.Name "range" p) [a] [] pos) (tI X.K gl call XR W (.rng1 e)) := by
  refine impI (pi_range1 hg hm (s_consE he s_nilE hp) (starCons hp)) fun σ H R q => ?_
  obtain ⟨α, m, g, s⟩ := q
  refine ⟨α, m, g, ?_⟩
  show ((evM gl call e .v (erL α)).bind fun d ρ1 => Ev.R.ok [d] ρ1).sat _ _
  rw [sat_bind]
  refine sat_mono (sat_bind.mp s) (fun d ρ f => ?_) fun _ _ z => z
  intro xs α1 H1 e1 e2 m1 st
  obtain ⟨j, ej, f⟩ := sat_opt.mp f
  obtain ⟨c, f⟩ := sat_ifOk.mp f
  rw [Bool.and_eq_true] at c
  have c1 : -(2 ^ 62) ≤ j ∧ j < 2 ^ 62 := by have := c.1; simpa [rngOk] using this
  obtain ⟨x, rfl⟩ : ∃ x, xs = [x] := by
    cases xs with
    | nil => simp [erL] at e1
    | cons x xs => cases xs with
      | nil => exact ⟨x, rfl⟩
      | cons y ys => simp [erL] at e1
  have ex : x.er = .int j := by rw [int?_some ej] at e1; simpa [erL] using e1
  have := er_int ex
  subst this
  have st' := Stp.right (Δ := [A.int j]) st
  refine ⟨j, rfl, c1.1, c1.2, f (Itr 0 j.toNat) _ .non α1 H1 ?_ (walk_rng 0 j.toNat (fits_iff.mp c.2)) (.inl ⟨rfl, st'.asF⟩) e2 m1 st'.good⟩
  rw [rngL_er]; simp
theorem s_rng2 {e1 e2 : Ev.E} {a b : Expr} {p pos : Pos} (hg : Gl X "range") (hm : X.mg "range" = none) (he1 : SE X gl call XR W e1 a) (he2 : SE X gl call XR W e2 b) (hp1 : plainE a = true) (hp2 : plainE b = true) :
    PI X tg (.Call (.Name "range" p) [a, b] [] pos) (tI X.K gl call XR W (.rng2 e1 e2)) := by
  refine impI (pi_range2 hg hm (s_consE he1 (s_consE he2 s_nilE hp2) hp1) (by rw [starCons hp1, starCons hp2]; rfl) (starCons hp2)) fun σ H R q => ?_
  obtain ⟨α, m, g, s⟩ := q
  refine ⟨α, m, g, ?_⟩
  show ((evM gl call e1 .v (erL α)).bind fun d ρ1 => ((evM gl call e2 .v ρ1).bind fun d2 ρ2 => Ev.R.ok [d2] ρ2).bind fun ds ρ2 => Ev.R.ok (d :: ds) ρ2).sat _ _
  rw [sat_bind]
  refine sat_mono (sat_bind.mp s) (fun d ρ f => ?_) fun _ _ z => z
  rw [sat_bind, sat_bind]
  refine sat_mono (sat_bind.mp f) (fun d2 ρ2 f => ?_) fun _ _ z => z
  intro xs α1 H1 e1 e2 m1 st
  obtain ⟨i, ei, f⟩ := sat_opt.mp f
  obtain ⟨j, ej, f⟩ := sat_opt.mp f
  obtain ⟨c, f⟩ := sat_ifOk.mp f
  rw [Bool.and_eq_true, Bool.and_eq_true] at c
  have c1 : -(2 ^ 62) ≤ i ∧ i < 2 ^ 62 := by have := c.1.1; simpa [rngOk] using this
  have c2 : -(2 ^ 62) ≤ j ∧ j < 2 ^ 62 := by have := c.1.2; simpa [rngOk] using this
  obtain ⟨x, y, rfl⟩ : ∃ x y, xs = [x, y] := by
    cases xs with
    | nil => simp [erL] at e1
    | cons x xs => cases xs with
      | nil => simp [erL] at e1
      | cons y ys => cases ys with
        | nil => exact ⟨x, y, rfl⟩
        | cons z zs => simp [erL] at e1
  have ee : x.er = .int i ∧ y.er = .int j := by rw [int?_some ei, int?_some ej] at e1; simpa [erL] using e1
  have := er_int ee.1
  subst this
  have := er_int ee.2
  subst this
  have st' := Stp.right (Δ := [A.int i, A.int j]) st
  exact ⟨i, j, rfl, ⟨c1.1, c1.2, c2.1, c2.2⟩, f (Itr i (j - i).toNat) _ .non α1 H1 (rngL_er i j).symm (walk_rng i _ (fits_iff.mp c.2)) (.inl ⟨rfl, st'.asF⟩) e2 m1 st'.good⟩
theorem items_no {x : A} {ds : List D} (h : items x.er = some ds) : ∃ a xs, erL xs = ds ∧ D.immL ds = true ∧ (x = .tup a xs ∨ x = .lst a xs ∨ x = .rol a xs ∨ x = .kol a xs) := by
  obtain ⟨a, xs, h1 | ⟨s, rfl⟩⟩ := items_er h
  · exact ⟨a, xs, h1⟩
  · simp [A.er, items] at h
/-- list or tuple: one reading -/
theorem pi_seq {ex : Expr} {t : TE} (h : PE X ex t) : PI X tg ex (fun σ H R => iList X.K t σ H R ∨ iTup X.K t σ H R) := PI.or (pi_list h) (pi_tup h)
theorem walk_any {K : PySem.W.Frag} {α1 : List A} {H1 : Hp} {x : A} {ds : List D} (h : items x.er = some ds) (ok : x.ok K H1) (ap : ∀ p ∈ x.foot, p.2 ∉ wrL α1) :
    (∃ a xs, x.val = .ref a ∧ erL xs = ds ∧ (∃ ys, SqL K H1 a ys) ∧ Walk K (Itl K a) xs x α1 H1) ∨ (∃ a xs, x.val = .ref a ∧ erL xs = ds ∧ (∃ ys, SqT K H1 a ys) ∧ Walk K (Itt K a) xs x α1 H1) := by
  obtain ⟨a, xs, e1, e2, hx⟩ := items_no h
  rw [← e1] at e2
  rcases hx with hx | hx
  · subst hx
    have o := ok
    rw [A.ok] at o
    exact .inr ⟨a, xs, rfl, e1, ⟨_, o.1⟩, walk_seqT ok e2⟩
  · have o := A.seqL ok hx
    exact .inl ⟨a, xs, o.1, e1, ⟨_, o.2.1⟩, walk_seqL hx ok ap e2⟩
theorem foot_apart {K : PySem.W.Frag} {H : Hp} {x : A} {α : List A} (g : Good K H (x :: α)) : ∀ p ∈ x.foot, p.2 ∉ wrL α := fun p m n => by
  have nd := g.nd
  rw [footL, List.map_append, List.nodup_append] at nd
  exact nd.2.2 p.2 (List.mem_map_of_mem m) p.2 (List.mem_map.mpr ⟨_, mem_wrL.mp n, rfl⟩) rfl
/-- which of the two it is: by the evaluator's value -/
def D.isTup : D → Bool
  | .tup _ => true
  | _ => false
theorem walk_tup {K : PySem.W.Frag} {α1 : List A} {H1 : Hp} {x : A} {ds : List D} (h : items x.er = some ds) (ok : x.ok K H1) (ht : x.er.isTup = true) :
    ∃ a xs, x.val = .ref a ∧ erL xs = ds ∧ (∃ ys, SqT K H1 a ys) ∧ Walk K (Itt K a) xs x α1 H1 := by
  obtain ⟨a, xs, e1, e2, hx⟩ := items_no h
  rw [← e1] at e2
  rcases hx with hx | hx | hx | hx
  · subst hx
    have o := ok
    rw [A.ok] at o
    exact ⟨a, xs, rfl, e1, ⟨_, o.1⟩, walk_seqT ok e2⟩
  all_goals (subst hx; simp [A.er, D.isTup] at ht)
theorem walk_list {K : PySem.W.Frag} {α1 : List A} {H1 : Hp} {x : A} {ds : List D} (h : items x.er = some ds) (ok : x.ok K H1) (ap : ∀ p ∈ x.foot, p.2 ∉ wrL α1) (ht : x.er.isTup = false) :
    ∃ a xs, x.val = .ref a ∧ erL xs = ds ∧ (∃ ys, SqL K H1 a ys) ∧ Walk K (Itl K a) xs x α1 H1 := by
  obtain ⟨a, xs, e1, e2, hx⟩ := items_no h
  rw [← e1] at e2
  rcases hx with hx | hx
  · subst hx; simp [A.er, D.isTup] at ht
  · have o := A.seqL ok hx
    exact ⟨a, xs, o.1, e1, ⟨_, o.2.1⟩, walk_seqL hx ok ap e2⟩
theorem s_seq {e : Ev.E} {ex : Expr} (he : SE X gl call XR W e ex) : PI X tg ex (tI X.K gl call XR W (.seq e)) := by
  refine impI (pi_seq he.v) fun σ H R q => ?_
  obtain ⟨α, m, g, s⟩ := q
  have s : ((evM gl call e .v (erL α)).bind fun d ρ1 => opt (items d) fun xs => Ev.R.ok (xs, none) ρ1).sat _ _ := s
  cases hd : evM gl call e .v (erL α) with
  | st => rw [hd] at s; exact s.elim
  | rz x ρ => rw [hd] at s; exact .inl ⟨α, m, g, by rw [hd]; exact s⟩
  | ok d ρ =>
    rw [hd] at s
    obtain ⟨ds, ed, f⟩ := sat_opt.mp s
    cases ht : d.isTup with
    | true =>
      refine .inr ⟨α, m, g, ?_⟩
      rw [hd]
      intro x α1 H1 e1 e2 m1 st
      subst e1
      obtain ⟨a, xs, v, ex, sq, wk⟩ := walk_tup (α1 := α1) ed st.good.ok.1 ht
      have st' := Stp.right (Δ := [x]) st
      exact ⟨a, v, sq, f _ xs x α1 H1 ex wk (.inl ⟨rfl, st'.asF⟩) e2 m1 st'.good⟩
    | false =>
      refine .inl ⟨α, m, g, ?_⟩
      rw [hd]
      intro x α1 H1 e1 e2 m1 st
      subst e1
      obtain ⟨a, xs, v, ex, sq, wk⟩ := walk_list (α1 := α1) ed st.good.ok.1 (foot_apart st.good) ht
      have st' := Stp.right (Δ := [x]) st
      exact ⟨a, v, sq, f _ xs x α1 H1 ex wk (.inl ⟨rfl, st'.asF⟩) e2 m1 st'.good⟩
theorem sits_foot {x : A} {ds : List D} (h : items x.er = some ds) (hs : x.er.sits = true) : x.foot = [] := by
  obtain ⟨a, xs, e1, e2, hx⟩ := items_no h
  rw [← e1] at e2
  rcases hx with hx | hx | hx | hx <;> subst hx
  · rw [A.foot]; exact imm_footL xs e2
  · simp [A.er, D.sits] at hs
  · simp [A.er, D.sits] at hs
  · rfl
theorem s_seqv {e : Ev.E} {ex : Expr} (he : SE X gl call XR W e ex) : PI X tg ex (tI X.K gl call XR W (.seqv e)) := by
  refine impI (pi_seq he.b) fun σ H R q => ?_
  obtain ⟨α, m, g, s⟩ := q
  have s : ((evM gl call e .b (erL α)).bind fun d ρ1 => opt (items d) fun xs => ifOk (d.sits) (Ev.R.ok (xs, none) ρ1)).sat _ _ := s
  cases hd : evM gl call e .b (erL α) with
  | st => rw [hd] at s; exact s.elim
  | rz x ρ => rw [hd] at s; exact .inl ⟨α, m, g, by rw [hd]; exact s⟩
  | ok d ρ =>
    rw [hd] at s
    obtain ⟨ds, ed, f0⟩ := sat_opt.mp s
    obtain ⟨hs, f⟩ := sat_ifOk.mp f0
    clear f0
    cases ht : d.isTup with
    | true =>
      refine .inr ⟨α, m, g, ?_⟩
      rw [hd]
      intro x α1 H1 e1 e2 m1 st ok
      subst e1
      obtain ⟨a, xs, v, ex, sq, wk⟩ := walk_tup (α1 := α1) ed ok ht
      have st' := Stp.right (Δ := own e x) st
      exact ⟨a, v, sq, f _ xs x α1 H1 ex wk (.inl ⟨rfl, st'.asF⟩) e2 m1 st'.good⟩
    | false =>
      refine .inl ⟨α, m, g, ?_⟩
      rw [hd]
      intro x α1 H1 e1 e2 m1 st ok
      subst e1
      obtain ⟨a, xs, v, ex, sq, wk⟩ := walk_list (α1 := α1) ed ok (by rw [sits_foot ed hs]; simp) ht
      have st' := Stp.right (Δ := own e x) st
      exact ⟨a, v, sq, f _ xs x α1 H1 ex wk (.inl ⟨rfl, st'.asF⟩) e2 m1 st'.good⟩
theorem foot_mem {K : PySem.W.Frag} {H : Hp} {α : List A} {i : Nat} {y : A} (g : Good K H α) (hy : α[i]? = some y) (hs : ∀ p ∈ y.foot, p.1 = false) : ∀ p ∈ y.foot, p.2 ∉ wrL α := fun p m n => by
  have nd := g.nd
  obtain ⟨l, p1, _⟩ := footL_set hy
  have nd' := (p1.map (·.2)).nodup_iff.mp nd
  rw [List.map_append, List.nodup_append] at nd'
  rcases List.mem_append.mp (p1.mem_iff.mp (mem_wrL.mp n)) with z | z
  · have := hs _ z; cases this
  · exact nd'.2.2 p.2 (List.mem_map_of_mem m) p.2 (List.mem_map.mpr ⟨_, z, rfl⟩) rfl
theorem s_froz {i : Nat} {x : Str} {pos : Pos} (hN : X.N[i]? = some x) (hv : Vis X.env.scope x) (hd : (x == ("__debug__" : Str)) = false) (hcd : (x == ("__classdict__" : Str)) = false) : PI X tg (.Name x pos) (tI X.K gl call XR W (.froz i)) := by
  refine impI (pi_seq (pe_var hN hv hd hcd)) fun σ H R q => ?_
  obtain ⟨α, m, g, s⟩ := q
  obtain ⟨d, ed, s1⟩ := sat_opt.mp s
  obtain ⟨ds, es, s2⟩ := sat_opt.mp s1
  clear s s1
  obtain ⟨y, y1, y2, y3⟩ := rd_at m ed
  subst y2
  have oy : y.ok X.K H := okL_iff.mp g.ok y (List.mem_of_getElem? y1)
  by_cases hs : y.er.still = true
  · rw [if_pos hs] at s2
    have ap : ∀ p ∈ y.foot, p.2 ∉ wrL α := by
      refine foot_mem g y1 fun p mp => ?_
      obtain ⟨a, xs, e1, e2, hx⟩ := items_no es
      rw [← e1] at e2
      rcases hx with hx | hx | hx | hx <;> subst hx
      · rw [A.foot, imm_footL xs e2] at mp; cases mp
      · simp [A.er, D.still] at hs
      · have : p = (false, a) := by simpa [A.foot] using mp
        rw [this]
      · cases mp
    cases ht : y.er.isTup with
    | true =>
      obtain ⟨a, xs, v, ex, sq, wk⟩ := walk_tup (α1 := α) es oy ht
      exact .inr ⟨_, y3, a, v, sq, s2 _ xs y α H ex wk (.inl ⟨rfl, Stp.refl g⟩) rfl m g⟩
    | false =>
      obtain ⟨a, xs, v, ex, sq, wk⟩ := walk_list es oy ap ht
      exact .inl ⟨_, y3, a, v, sq, s2 _ xs y α H ex wk (.inl ⟨rfl, Stp.refl g⟩) rfl m g⟩
  · rw [if_neg hs] at s2
    obtain ⟨a, xs, e1, e2, hx⟩ := items_no es
    rcases hx with hx | hx | hx | hx <;> subst hx
    · simp [A.er, D.still] at hs
    · -- a list: frozen from here on
      rw [← e1] at e2
      have hl := (List.getElem?_eq_some_iff.mp y1).1
      obtain ⟨l, p1, q1⟩ := footL_set y1
      have o := oy
      rw [A.ok] at o
      have orol : (A.rol a xs).ok X.K H := by rw [A.ok]; exact ⟨.inl o.1, o.2.1, o.2.2, e2⟩
      have i0 := imm_footL xs e2
      have p1' : (footL α).Perm ((true, a) :: l) := by simpa [A.foot, i0] using p1
      have q1' : (footL (α.set i (.rol a xs))).Perm ((false, a) :: l) := by simpa [A.foot] using q1 (.rol a xs)
      have g1 : Good X.K H (α.set i (.rol a xs)) := ⟨okL_set g.ok orol, (q1'.map (·.2)).nodup_iff.mpr ((p1'.map (·.2)).nodup_iff.mp g.nd)⟩
      have m1 : Mt σ (α.set i (.rol a xs)) := by
        refine ⟨by rw [List.length_set]; exact m.len, fun j z hz => ?_⟩
        by_cases e : i = j
        · subst e
          rw [List.getElem?_set_self hl] at hz
          cases hz
          exact .inr y3
        · rw [List.getElem?_set_ne e] at hz
          exact m.at_ j z hz
      have ap : ∀ p ∈ (A.rol a xs).foot, p.2 ∉ wrL (α.set i (.rol a xs)) := by
        refine foot_mem g1 (List.getElem?_set_self hl) fun p mp => ?_
        have : p = (false, a) := by simpa [A.foot] using mp
        rw [this]
      have wk := walk_seqL (α1 := α.set i (.rol a xs)) (.inr (.inl rfl)) orol ap e2
      refine .inl ⟨_, y3, a, rfl, ⟨_, (A.seqL oy (.inl rfl)).2.1⟩, s2 _ xs _ _ H e1 wk (.inr ⟨i, a, xs, α, rfl, Stp.refl g, y1, e2, rfl⟩) ?_ m1 g1⟩
      rw [erL_set, ← e1]; rfl
    · simp [A.er, D.still] at hs
    · simp [A.er, D.still] at hs
end
end Ev
end

section
set_option Elab.async false
set_option linter.all false
set_option maxRecDepth 100000
/-! EvB11: statements. -/
namespace Ev
open PySem L2
structure Go (K : PySem.W.Frag) (ok : Nat → Bool) (σ : L2.St) (α : List A) (H : Hp) (σ' : L2.St) (α' : List A) (H' : Hp) : Prop where
  m : Mt σ' α'
  kp : KeepS ok σ σ'
  st : Stp K (wrL α) α H α' H'
section
variable {K : PySem.W.Frag} {XR : XRel} {W : WX} {ok : Nat → Bool} {σ σ1 σ2 : L2.St} {α α1 α2 : List A} {H H1 H2 : Hp}
theorem Go.refl (m : Mt σ α) (g : Good K H α) : Go K ok σ α H σ α H := ⟨m, .refl, .refl g⟩
theorem Go.trans (a : Go K ok σ α H σ1 α1 H1) (b : Go K ok σ1 α1 H1 σ2 α2 H2) : Go K ok σ α H σ2 α2 H2 := ⟨b.m, a.kp.trans b.kp, a.st.trans b.st a.st.wsub⟩
/-- the end o, from the state σ, α, H, leads to D or to an exception wished by W -/
def O.sat (K : PySem.W.Frag) (XR : XRel) (W : WX) (ok : Nat → Bool) (σ : L2.St) (α : List A) (H : Hp) (D : Ends) : O → Prop
  | .nx ρ => ∀ σ' α' H', erL α' = ρ → Go K ok σ α H σ' α' H' → D.nx σ' H'
  | .bk ρ => ∀ σ' α' H', erL α' = ρ → Go K ok σ α H σ' α' H' → D.bk σ' H'
  | .ct ρ => ∀ σ' α' H', erL α' = ρ → Go K ok σ α H σ' α' H' → D.ct σ' H'
  | .rt d ρ => ∀ x σ' α' H', x.er = d → erL α' = ρ → Mt σ' α' → KeepS ok σ σ' → Stp K (wrL α) α H (x :: α') H' → D.rt x.val H'
  | .rz x ρ => ∀ cls dd σ' α' H', XR x cls dd H' → erL α' = ρ → Go K ok σ α H σ' α' H' → W cls dd σ' H'
  | .st => False
theorem O.sat.on {D : Ends} {o : O} (h : O.sat K XR W ok σ α H D o) (b : Go K ok σ α H σ1 α1 H1) : O.sat K XR W ok σ1 α1 H1 D o := by
  cases o with
  | nx ρ => exact fun σ' α' H' e g => h σ' α' H' e (b.trans g)
  | bk ρ => exact fun σ' α' H' e g => h σ' α' H' e (b.trans g)
  | ct ρ => exact fun σ' α' H' e g => h σ' α' H' e (b.trans g)
  | rt d ρ => exact fun x σ' α' H' e1 e2 m k s => h x σ' α' H' e1 e2 m (b.kp.trans k) (b.st.trans s b.st.wsub)
  | rz x ρ => exact fun cls dd σ' α' H' r e g => h cls dd σ' α' H' r e (b.trans g)
  | st => exact h
theorem osat_o {β : Type} {r : Ev.R β} {f : β → Env → O} {D : Ends} (h : O.sat K XR W ok σ α H D (r.o f)) : r.sat (fun a ρ => O.sat K XR W ok σ α H D (f a ρ)) (EX K XR W σ α H) := by
  cases r with
  | ok a ρ => exact h
  | rz x ρ => exact fun cls dd α' H' r e m s => h cls dd σ α' H' r e ⟨m, .refl, s⟩
  | st => exact h
theorem osat_o' {β : Type} {r : Ev.R β} {f : β → Env → O} {D : Ends} (go : Go K ok σ α H σ1 α1 H1) (h : O.sat K XR W ok σ α H D (r.o f)) : r.sat (fun a ρ => O.sat K XR W ok σ α H D (f a ρ)) (EX K XR W σ1 α1 H1) := by
  cases r with
  | ok a ρ => exact h
  | rz x ρ => exact fun cls dd α' H' r e m s => h cls dd σ1 α' H' r e (go.trans ⟨m, .refl, s⟩)
  | st => exact h
theorem osat_opt {β : Type} {o : Option β} {f : β → O} {D : Ends} (h : O.sat K XR W ok σ α H D (optO o f)) : ∃ b, o = some b ∧ O.sat K XR W ok σ α H D (f b) := by
  cases o with
  | none => exact h.elim
  | some b => exact ⟨b, rfl, h⟩
theorem osat_if {b : Bool} {o : O} {D : Ends} (h : O.sat K XR W ok σ α H D (ifO b o)) : b = true ∧ O.sat K XR W ok σ α H D o := by
  cases b with
  | false => exact h.elim
  | true => exact ⟨rfl, h⟩
/-- o, then f -/
theorem osat_next {o : O} {f : Env → O} {D : Ends} (h : O.sat K XR W ok σ α H D (o.next f)) : O.sat K XR W ok σ α H { D with nx := fun σ' H' => ∃ α', Mt σ' α' ∧ Good K H' α' ∧ O.sat K XR W ok σ' α' H' D (f (erL α')) } o := by
  cases o with
  | nx ρ => exact fun σ' α' H' e g => ⟨α', g.m, g.st.good, O.sat.on (show O.sat K XR W ok σ α H D (f (erL α')) by rw [e]; exact h) g⟩
  | bk ρ => exact h
  | ct ρ => exact h
  | rt d ρ => exact h
  | rz x ρ => exact h
  | st => exact h
/-- a turn, then the others -/
theorem osat_turn {o : O} {f : Env → O} {D : Ends} (h : O.sat K XR W ok σ α H D (o.turn f)) :
    O.sat K XR W ok σ α H { D with nx := fun σ' H' => ∃ α', Go K ok σ α H σ' α' H' ∧ O.sat K XR W ok σ α H D (f (erL α')), ct := fun σ' H' => ∃ α', Go K ok σ α H σ' α' H' ∧ O.sat K XR W ok σ α H D (f (erL α')), bk := D.nx } o := by
  cases o with
  | nx ρ => exact fun σ' α' H' e g => ⟨α', g, by rw [e]; exact h⟩
  | bk ρ => exact h
  | ct ρ => exact fun σ' α' H' e g => ⟨α', g, by rw [e]; exact h⟩
  | rt d ρ => exact h
  | rz x ρ => exact h
  | st => exact h
end
section
variable (K : PySem.W.Frag) (gl : Nat → Option D) (call : Nat → List D → R D) (XR : XRel) (W : WX) (fuel : Nat)
def tS (ok : Nat → Bool) (c : S) : TS := fun D σ H => ∃ α, Mt σ α ∧ Good K H α ∧ O.sat K XR W ok σ α H D (evS gl call fuel c ok (erL α))
def tSs (ok : Nat → Bool) (c : Ss) : TS := fun D σ H => ∃ α, Mt σ α ∧ Good K H α ∧ O.sat K XR W ok σ α H D (evSs gl call fuel c ok (erL α))
end
theorem impS {X : Cx} {st : Stmt} {t t' : TS} (h : PS X st t) (f : ∀ D σ H, t' D σ H → t D σ H) : PS X st t' := ⟨fun pins s σ H D I q => h.run pins s σ H D I (f D σ H q)⟩
theorem impSs {X : Cx} {st : List Stmt} {t t' : TS} (h : PSs X st t) (f : ∀ D σ H, t' D σ H → t D σ H) : PSs X st t' := ⟨fun pins s σ H D I q => h.run pins s σ H D I (f D σ H q)⟩
section
variable {X : Cx} {gl : Nat → Option D} {call : Nat → List D → R D} {XR : XRel} {W : WX} {fuel : Nat} {ok : Nat → Bool} {pos : Pos}
theorem s_nilS : PSs X [] (tSs X.K gl call XR W fuel ok .nil) := impSs pss_nil fun D σ H q => by
  obtain ⟨α, m, g, s⟩ := q
  exact s σ α H rfl (.refl m g)
theorem s_consS {c : S} {cs : Ss} {st : Stmt} {sts : List Stmt} (h : PS X st (tS X.K gl call XR W fuel ok c)) (hs : PSs X sts (tSs X.K gl call XR W fuel ok cs)) : PSs X (st :: sts) (tSs X.K gl call XR W fuel ok (.cons c cs)) := by
  refine impSs (pss_cons h hs) fun D σ H q => ?_
  obtain ⟨α, m, g, s⟩ := q
  have s : O.sat X.K XR W ok σ α H D ((evS gl call fuel c ok (erL α)).next fun ρ1 => evSs gl call fuel cs ok ρ1) := s
  exact ⟨α, m, g, osat_next s⟩
theorem s_passS : PS X (.Pass pos) (tS X.K gl call XR W fuel ok .pass) := impS ps_pass fun D σ H q => by
  obtain ⟨α, m, g, s⟩ := q
  exact s σ α H rfl (.refl m g)
theorem s_brkS : PS X (.Break pos) (tS X.K gl call XR W fuel ok .brk) := impS ps_break fun D σ H q => by
  obtain ⟨α, m, g, s⟩ := q
  exact s σ α H rfl (.refl m g)
theorem s_cntS : PS X (.Continue pos) (tS X.K gl call XR W fuel ok .cnt) := impS ps_continue fun D σ H q => by
  obtain ⟨α, m, g, s⟩ := q
  exact s σ α H rfl (.refl m g)
theorem s_retS {e : Ev.E} {ex : Expr} (he : SE X gl call XR W e ex) : PS X (.Return (some ex) pos) (tS X.K gl call XR W fuel ok (.ret e)) := impS (ps_ret he.v) fun D σ H q => by
  obtain ⟨α, m, g, s⟩ := q
  refine ⟨α, m, g, sat_mono (osat_o s) (fun d ρ f x α1 H1 e1 e2 m1 st => ?_) fun _ _ z => z⟩
  exact f x σ α1 H1 e1 e2 m1 .refl st.asF
theorem s_ret0S : PS X (.Return none pos) (tS X.K gl call XR W fuel ok .ret0) := impS ps_retN fun D σ H q => by
  obtain ⟨α, m, g, s⟩ := q
  exact s .non σ α H rfl rfl m .refl ((Stp.refl g).imm trivial rfl)
/-- no comprehension -/
def noComp : Expr → Bool
  | .ListComp .. | .SetComp .. | .DictComp .. => false
  | _ => true
theorem sw_false {e : Expr} {t : Option Expr} {l : Nat} {env : PySem.Env} (h : noComp e = true) : swapsWith e t l env = pure false := by
  cases e <;> first | rfl | (simp [noComp] at h)
theorem s_exS {e : Ev.E} {ex : Expr} (he : SE X gl call XR W e ex) (hn : noComp ex = true) : PS X (.Expr ex pos) (tS X.K gl call XR W fuel ok (.ex e)) := impS (ps_expr he.v (sw_false hn)) fun D σ H q => by
  obtain ⟨α, m, g, s⟩ := q
  refine ⟨α, m, g, sat_mono (osat_o s) (fun d ρ f x α1 H1 e1 e2 m1 st => ?_) fun _ _ z => z⟩
  exact f σ α1 H1 e2 ⟨m1, .refl, (Stp.right (Δ := [x]) st).asF⟩
theorem s_iteS {c : Ev.E} {a b : Ss} {ce : Expr} {as bs : List Stmt} (hc : PT X ce (tT X.K gl call XR W c)) (ha : PSs X as (tSs X.K gl call XR W fuel ok a)) (hb : PSs X bs (tSs X.K gl call XR W fuel ok b)) : PS X (.If ce as bs pos) (tS X.K gl call XR W fuel ok (.ite c a b)) :=
  impS (ps_if hc ha hb) fun D σ H q => by
    obtain ⟨α, m, g, s⟩ := q
    refine ⟨α, m, g, sat_mono (osat_o s) (fun d ρ f α1 H1 e1 m1 st => ?_) fun _ _ z => z⟩
    have go : Go X.K ok σ α H σ α1 H1 := ⟨m1, .refl, st.asF⟩
    subst e1
    show if d.isT = true then tSs X.K gl call XR W fuel ok a D σ H1 else tSs X.K gl call XR W fuel ok b D σ H1
    cases hd : d.isT with
    | true =>
      rw [hd, if_pos rfl] at f
      rw [if_pos rfl]
      exact ⟨α1, m1, st.good, f.on go⟩
    | false =>
      rw [hd, if_neg Bool.false_ne_true] at f
      rw [if_neg Bool.false_ne_true]
      exact ⟨α1, m1, st.good, f.on go⟩
/-- target = value -/
theorem s_setS {e : Ev.E} {ex te : Expr} {tg : Tg} (he : SE X gl call XR W e ex) (hg : PG X te (tG X.K ok tg)) (hn : noComp ex = true) (hp : plainE te = true) (hw : swappedStores [te] ex X.env = pure none) :
    PS X (.Assign [te] ex pos) (tS X.K gl call XR W fuel ok (.set tg e)) := impS (ps_asg he.v hg (sw_false hn) hw (by rw [assignCons hp]; rfl)) fun D σ H q => by
  obtain ⟨α, m, g, s⟩ := q
  refine ⟨α, m, g, sat_mono (osat_o s) (fun d ρ f x α1 H1 e1 e2 m1 st => ?_) fun _ _ z => z⟩
  subst e1 e2
  obtain ⟨ρ', e3, f⟩ := osat_opt f
  exact ⟨x, α1, ρ', rfl, m1, st.good, e3, fun σ' α' e m' g' sub kp => f σ' α' H1 e ⟨m', kp, st.asF.trans (W' := []) (stp_same g' sub) (by simp)⟩⟩
theorem while_core {c : Env → Ev.R D} {body : Env → O} {tc : TT} {tb : TS} {D : Ends} {σ0 : L2.St} {α0 : List A} {H0 : Hp} {K : PySem.W.Frag}
    (hc : ∀ σ α H Q, Mt σ α → Good K H α → (c (erL α)).sat (fun d ρ => ∀ α' H', erL α' = ρ → Mt σ α' → Stp K (wrL α) α H α' H' → Q d.isT H') (EX K XR W σ α H) → tc σ H Q)
    (hb : ∀ σ α H D, Mt σ α → Good K H α → O.sat K XR W ok σ α H D (body (erL α)) → tb D σ H)
    (n : Nat) (m : Mt σ0 α0) (g : Good K H0 α0) (s : O.sat K XR W ok σ0 α0 H0 D (whlL c body n (erL α0))) : tWhile tc tb D σ0 H0 := by
  refine ⟨fun n σ H => ∃ α, Go K ok σ0 α0 H0 σ α H ∧ O.sat K XR W ok σ0 α0 H0 D (whlL c body n (erL α)), ⟨n, α0, .refl m g, s⟩, ?_⟩
  rintro n σ H ⟨α, go, s⟩
  cases n with
  | zero => exact s.elim
  | succ n =>
    have s : O.sat K XR W ok σ0 α0 H0 D ((c (erL α)).o fun k ρ1 => if k.isT = true then (body ρ1).turn (fun ρ' => whlL c body n ρ') else .nx ρ1) := s
    refine hc σ α H _ go.m go.st.good (sat_mono (osat_o' go s) (fun d ρ f α1 H1 e1 m1 st => ?_) fun _ _ z => z)
    subst e1
    have go1 : Go K ok σ0 α0 H0 σ α1 H1 := go.trans ⟨m1, .refl, st⟩
    cases hd : d.isT with
    | true =>
      rw [hd, if_pos rfl] at f
      rw [if_pos rfl]
      exact ⟨_, fun σ' H' h => ⟨n, Nat.lt_succ_self n, h⟩, hb σ α1 H1 _ m1 st.good ((osat_turn f).on go1)⟩
    | false =>
      rw [hd, if_neg Bool.false_ne_true] at f
      rw [if_neg Bool.false_ne_true]
      exact f σ α1 H1 rfl go1
theorem s_whlS {c : Ev.E} {b : Ss} {ce : Expr} {bs : List Stmt} (hp : PassesOwn (model X.prog X.w) X.A X.env X.xe) (hc : PT X ce (tT X.K gl call XR W c)) (hb : PSs X bs (tSs X.K gl call XR W fuel ok b)) : PS X (.While ce bs [] pos) (tS X.K gl call XR W fuel ok (.whl c b)) := by
  refine impS (ps_while hp hc hb) fun D σ H q => ?_
  obtain ⟨α, m, g, s⟩ := q
  exact while_core (fun σ α H Q m g s => ⟨α, m, g, sat_mono s (fun d ρ f α' H' e m' st => f α' H' e m' st.asF) fun _ _ z => z⟩) (fun σ α H D m g s => ⟨α, m, g, s⟩) fuel m g s
/-- the ends behind a walk: what was frozen is a list again -/
theorem osat_thaw {K : PySem.W.Frag} {o : O} {fz : Option Nat} {D : Ends} {σ : L2.St} {α α1 : List A} {H H1 : Hp} (F : Froz K α H fz α1 H1) (m1 : Mt σ α1) (g1 : Good K H1 α1) (h : O.sat K XR W ok σ α H D (o.thaw fz)) :
    O.sat K XR W (okBut ok fz) σ α1 H1 D o := by
  have kp1 : ∀ {σ' : L2.St}, KeepS (okBut ok fz) σ σ' → KeepS ok σ σ' := fun {σ'} k => ⟨k.1, fun i hi => k.2 i (by cases fz <;> simp [okBut, hi])⟩
  have kp2 : ∀ {σ' : L2.St}, KeepS (okBut ok fz) σ σ' → ∀ i, fz = some i → σ'[i]? = σ[i]? := fun {σ'} k i hi => k.2 i (by subst hi; simp [okBut])
  cases o with
  | nx ρ =>
    intro σ' α' H' e go
    subst e
    obtain ⟨ρ', e1, h⟩ := osat_opt h
    obtain ⟨α2, e2, m2, st2⟩ := thaw_ok (Δ := []) F g1 m1 go.st go.m (kp2 go.kp) e1
    exact h σ' α2 H' e2 ⟨m2, kp1 go.kp, st2⟩
  | rt d ρ =>
    intro x σ' α' H' ex e mm kk st
    subst e
    obtain ⟨ρ', e1, h⟩ := osat_opt h
    obtain ⟨α2, e2, m2, st2⟩ := thaw_ok (Δ := [x]) F g1 m1 st mm (kp2 kk) e1
    exact h x σ' α2 H' ex e2 m2 (kp1 kk) st2
  | rz x ρ =>
    intro cls dd σ' α' H' xr e go
    subst e
    obtain ⟨ρ', e1, h⟩ := osat_opt h
    obtain ⟨α2, e2, m2, st2⟩ := thaw_ok (Δ := []) F g1 m1 go.st go.m (kp2 go.kp) e1
    exact h cls dd σ' α2 H' xr e2 ⟨m2, kp1 go.kp, st2⟩
  | bk ρ => exact h.elim
  | ct ρ => exact h.elim
  | st => exact h.elim
def notSet : Expr → Bool
  | .Set .. => false
  | _ => true
theorem noSet {it : Expr} {env : PySem.Env} (h : notSet it = true) : ∀ x, foldedSetIterable it env x = pure x := by
  intro x
  cases it <;> first | rfl | (simp [notSet] at h)
theorem PG.ex {ι : Type} {e : Expr} {t : ι → TG} (h : ∀ i, PG X e (t i)) : PG X e (fun v σ H Q => ∃ i, t i v σ H Q) := ⟨fun pins s σ H v u Q I r ⟨i, q⟩ => (h i).run pins s σ H v u Q I r q⟩
theorem PSs.ex {ι : Type} {e : List Stmt} {t : ι → TS} (h : ∀ i, PSs X e (t i)) : PSs X e (fun D σ H => ∃ i, t i D σ H) := ⟨fun pins s σ H D I ⟨i, q⟩ => (h i).run pins s σ H D I q⟩
theorem s_forS {tg : Tg} {it : Ev.It} {b : Ss} {te ie : Expr} {bs : List Stmt} (hp : PassesOwn (model X.prog X.w) X.A X.env X.xe) (hc : X.calm = true) (hi : PI X te ie (tI X.K gl call XR W it)) (hg : ∀ fz, PG X te (tG X.K (okBut ok fz) tg))
    (hb : ∀ fz, PSs X bs (tSs X.K gl call XR W fuel (okBut ok fz) b)) (hs : notSet ie = true) : PS X (.For te ie bs [] pos) (tS X.K gl call XR W fuel ok (.loop tg it b)) := by
  refine impS (ps_for hp hc hi (PG.ex hg) (PSs.ex hb) (noSet hs)) fun D σ H q => ?_
  obtain ⟨α, m, g, s⟩ := q
  refine ⟨α, m, g, sat_mono (osat_o s) (fun q ρ f J xs src α1 H1 e1 wk fr e2 m1 g1 => ?_) fun _ _ z => z⟩
  obtain ⟨ds, fz⟩ := q
  subst e1 e2
  have f := osat_thaw fr m1 g1 f
  revert f
  generalize htn : (fun d ρ' => optO (stT (okBut ok fz) tg d ρ') fun ρ2 => evSs gl call fuel b (okBut ok fz) ρ2) = turn
  intro f
  refine ⟨fun i n σk Hk => n = xs.length - i ∧ i ≤ xs.length ∧ ∃ αk, Go X.K (okBut ok fz) σ α1 H1 σk αk Hk ∧ O.sat X.K XR W (okBut ok fz) σ α1 H1 D (forL turn (erL (xs.drop i)) (erL αk)), ⟨xs.length, by simp, Nat.zero_le _, α1, .refl m1 g1, f⟩, ?_⟩
  rintro i n σk Hk ⟨rfl, hi, αk, go, s⟩
  have won := wk.on g1 go.st
  have wki := wk.wk i Hk won.1
  by_cases hlt : i < xs.length
  · obtain ⟨hgo, hy⟩ := wki.1 xs[i] (by simp [hlt])
    refine .inr ⟨hgo, fun σ' H' => ∃ α', Go X.K (okBut ok fz) σ α1 H1 σ' α' H' ∧ O.sat X.K XR W (okBut ok fz) σ α1 H1 D (forL turn (erL (xs.drop (i + 1))) (erL α')), fun σ' H' h => ⟨xs.length - (i + 1), by omega, rfl, hlt, h⟩, fun x H' y => ?_⟩
    obtain ⟨rfl, rfl⟩ := hy x H' y
    rw [List.drop_eq_getElem_cons hlt] at s
    have s : O.sat X.K XR W (okBut ok fz) σ α1 H1 D ((turn (xs[i]).er (erL αk)).turn fun ρ' => forL turn (erL (xs.drop (i + 1))) ρ') := s
    have s := osat_turn s
    rw [← htn] at s
    obtain ⟨ρ', e1, s⟩ := osat_opt s
    have gi : Good X.K H' (xs[i] :: αk) := go.st.good.imm (okL_iff.mp won.2 _ (List.getElem_mem hlt)) (by
      have := wk.imm
      rw [immL_iff] at this
      exact this _ (by rw [erL_map]; exact List.mem_map_of_mem (List.getElem_mem hlt)))
    refine ⟨fz, xs[i], αk, ρ', rfl, go.m, gi, e1, fun σ' α' e m' g' sub kp => ?_⟩
    subst e
    refine ⟨fz, α', m', g', ?_⟩
    rw [htn] at s
    refine s.on (go.trans ⟨m', kp, stp_same g' fun p mp => ?_⟩)
    have := sub p mp
    rw [footL, imm_foot xs[i] (by
      have := wk.imm
      rw [immL_iff] at this
      exact this _ (by rw [erL_map]; exact List.mem_map_of_mem (List.getElem_mem hlt)))] at this
    exact this
  · have e : i = xs.length := by omega
    subst e
    rw [List.drop_length] at s
    exact .inl ⟨wki.2 (Nat.le_refl _), s σk αk Hk rfl go⟩
end
end Ev
end

section
set_option Elab.async false
set_option linter.all false
set_option maxRecDepth 100000
/-! EvB12: places, what is stored there. -/
namespace Ev
open PySem L2
def A.get : A → List D → Option A
  | x, [] => some x
  | .lst _ xs, .int k :: ss => match (Ev.ixN xs.length k).bind fun j => xs[j]? with
    | some x => x.get ss
    | none => none
  | _, _ :: _ => none
def A.put (y : A) : A → List D → A
  | _, [] => y
  | .lst a xs, .int k :: ss => match Ev.ixN xs.length k with
    | some j => match xs[j]? with
      | some x => .lst a (xs.set j (A.put y x ss))
      | none => .lst a xs
    | none => .lst a xs
  | x, _ :: _ => x
theorem er_lst' {x : A} {ds : List D} (h : x.er = .lst ds) : ∃ a xs, x = .lst a xs ∧ erL xs = ds := by
  obtain ⟨a, xs, rfl, rfl⟩ := er_lst h
  exact ⟨a, xs, rfl, rfl⟩
theorem erL_get {xs : List A} {j : Nat} : (erL xs)[j]? = (xs[j]?).map A.er := by rw [erL_map, List.getElem?_map]
theorem get_cons {x y : A} {s : D} {ss : List D} (h : A.get x (s :: ss) = some y) : ∃ a xs k j z, x = .lst a xs ∧ s = .int k ∧ Ev.ixN xs.length k = some j ∧ xs[j]? = some z ∧ A.get z ss = some y := by
  cases x <;> try (simp [A.get] at h; done)
  rename_i a xs
  cases s <;> try (simp [A.get] at h; done)
  rename_i k
  simp only [A.get] at h
  split at h
  · rename_i z e
    obtain ⟨j, e1, e2⟩ := Option.bind_eq_some_iff.mp e
    exact ⟨a, xs, k, j, z, rfl, rfl, e1, e2, h⟩
  · cases h
theorem get_er : ∀ (ss : List D) (x : A) (d : D), D.get x.er ss = some d → ∃ y, A.get x ss = some y ∧ y.er = d
  | [], x, d, h => by
    simp only [D.get, Option.some.injEq] at h
    exact ⟨x, rfl, h⟩
  | s :: ss, x, d, h => by
    unfold D.get at h
    split at h
    · rename_i heq
      exact absurd heq (by simp)
    · rename_i ds k ss' e1 e2
      cases e2
      obtain ⟨a, xs, rfl, rfl⟩ := er_lst' e1
      split at h
      · rename_i z e
        obtain ⟨j, e3, e4⟩ := Option.bind_eq_some_iff.mp e
        rw [erL_length] at e3
        rw [erL_get] at e4
        obtain ⟨w, e5, rfl⟩ := Option.map_eq_some_iff.mp e4
        obtain ⟨y, e6, e7⟩ := get_er ss w d h
        refine ⟨y, ?_, e7⟩
        simp only [A.get, e3, Option.bind_some, e5]
        exact e6
      · cases h
    · cases h
theorem get_append : ∀ (ss : List D) (x : A) (s : D), A.get x (ss ++ [s]) = (A.get x ss).bind fun y => A.get y [s]
  | [], x, s => rfl
  | t :: ss, x, s => by
    cases x <;> try (simp [A.get]; done)
    rename_i a xs
    cases t <;> try (simp [A.get]; done)
    rename_i k
    simp only [List.cons_append, A.get]
    cases (Ev.ixN xs.length k).bind fun j => xs[j]? with
    | none => rfl
    | some z => exact get_append ss z s
theorem upd_er {f : D → Option D} : ∀ (ss : List D) (x y y' : A) (d' : D), A.get x ss = some y → f y.er = some y'.er → D.upd f x.er ss = some d' → d' = (A.put y' x ss).er
  | [], x, y, y', d', h, hf, hu => by
    simp only [A.get, Option.some.injEq] at h
    subst h
    simp only [D.upd] at hu
    rw [hf] at hu
    cases hu
    simp only [A.put]
  | s :: ss, x, y, y', d', h, hf, hu => by
    obtain ⟨a, xs, k, j, z, rfl, rfl, e1, e2, e3⟩ := get_cons h
    simp only [A.er, D.upd, erL_length, e1, erL_get, e2, Option.map_some] at hu
    obtain ⟨w, e4, rfl⟩ := Option.map_eq_some_iff.mp hu
    have := upd_er ss z y y' w e3 hf e4
    simp only [A.put, e1, e2, A.er]
    rw [erL_set, this]
section
variable {K : PySem.W.Frag} {H H' : Hp}
/-- a list within a value is written -/
theorem put_at : ∀ (ss : List D) (x : A) (a : Addr) (ys ys' : List A), A.get x ss = some (.lst a ys) → (A.put (.lst a ys') x ss).val = x.val ∧
    ∃ l, x.foot.Perm ((true, a) :: (footL ys ++ l)) ∧ (A.put (.lst a ys') x ss).foot.Perm ((true, a) :: (footL ys' ++ l)) ∧
      (x.ok K H → H a = some (.lst (ys.map A.val)) ∧ okL K H ys ∧ (Fr [a] H H' → H' a = some (.lst (ys'.map A.val)) → ys'.length ≤ line → okL K H' ys' → (∀ p ∈ l, p.2 ≠ a) → (A.put (.lst a ys') x ss).ok K H'))
  | [], x, a, ys, ys', h => by
    simp only [A.get, Option.some.injEq] at h
    subst h
    refine ⟨rfl, [], by rw [A.foot]; simp, by simp [A.put, A.foot], fun o => ?_⟩
    rw [A.ok] at o
    refine ⟨o.1, o.2.2, fun _ h1 h2 h3 _ => ?_⟩
    rw [show A.put (A.lst a ys') (A.lst a ys) [] = .lst a ys' from rfl, A.ok]
    exact ⟨h1, h2, h3⟩
  | s :: ss, x, a, ys, ys', h => by
    obtain ⟨b, xs, k, j, z, rfl, rfl, e1, e2, e3⟩ := get_cons h
    obtain ⟨hv, l0, p0, p1, ho⟩ := put_at ss z a ys ys' e3
    have ep : A.put (.lst a ys') (.lst b xs) (.int k :: ss) = .lst b (xs.set j (A.put (.lst a ys') z ss)) := by simp only [A.put, e1, e2]
    rw [ep]
    obtain ⟨l1, q0, q1⟩ := footL_set e2
    refine ⟨rfl, (true, b) :: (l0 ++ l1), ?_, ?_, fun o => ?_⟩
    · rw [A.foot]
      have : (footL xs).Perm ((true, a) :: (footL ys ++ (l0 ++ l1))) := q0.trans ((List.Perm.append_right l1 p0).trans (by rw [List.cons_append, List.append_assoc]))
      exact (this.cons _).trans ((List.Perm.swap _ _ _).trans (List.Perm.cons _ List.perm_middle.symm))
    · rw [A.foot]
      have : (footL (xs.set j (A.put (.lst a ys') z ss))).Perm ((true, a) :: (footL ys' ++ (l0 ++ l1))) := (q1 _).trans ((List.Perm.append_right l1 p1).trans (by rw [List.cons_append, List.append_assoc]))
      exact (this.cons _).trans ((List.Perm.swap _ _ _).trans (List.Perm.cons _ List.perm_middle.symm))
    · rw [A.ok] at o
      have oz := okL_iff.mp o.2.2 z (List.mem_of_getElem? e2)
      obtain ⟨h1, h2, h3⟩ := ho oz
      refine ⟨h1, h2, fun fr ha hl hok hn => ?_⟩
      have nb : b ≠ a := hn (true, b) List.mem_cons_self
      have z' := h3 fr ha hl hok fun p hp => hn p (List.mem_cons_of_mem _ (List.mem_append_left _ hp))
      have oth : okL K H' (xs.set j .non) := by
        refine ok_frL fr (fun b' m => ?_) _ (okL_set o.2.2 trivial) fun p mp => ?_
        · have : b' = a := by simpa using m
          subst this; exact ⟨_, h1⟩
        · have mp := (q1 .non).mem_iff.mp mp
          have : p ∈ l1 := by simpa [A.foot] using mp
          intro e
          exact hn p (List.mem_cons_of_mem _ (List.mem_append_right _ this)) (by simpa using e)
      rw [A.ok]
      refine ⟨?_, by rw [List.length_set]; exact o.2.1, ?_⟩
      · have : (xs.set j (A.put (.lst a ys') z ss)).map A.val = xs.map A.val := by
          rw [List.map_set, hv]
          refine List.ext_getElem? fun n => ?_
          by_cases e : j = n
          · subst e
            have hl : j < xs.length := (List.getElem?_eq_some_iff.mp e2).1
            rw [List.getElem?_set_self (by simpa using hl), List.getElem?_map, e2]; rfl
          · rw [List.getElem?_set_ne e]
        rw [this]
        exact fr.1 b _ o.1 (by simpa using nb)
      · have := okL_set (i := j) oth z'
        rwa [List.set_set] at this
theorem write_ok {xs0 Δ α ys ys' : List A} {i : Nat} {root : A} {ss : List D} {a : Addr} (g : Good K H (xs0 ++ α)) (hr : α[i]? = some root) (hg : A.get root ss = some (.lst a ys)) (hl : ys'.length ≤ line) (ho : okL K H (Δ ++ ys'))
    (hp : ∃ l, (footL (xs0 ++ ys)).Perm (footL (Δ ++ ys') ++ l)) :
    Stp K (wrL α) (xs0 ++ α) H (Δ ++ α.set i (A.put (.lst a ys') root ss)) (upd H a (.lst (ys'.map A.val))) ∧ (A.put (.lst a ys') root ss).val = root.val := by
  obtain ⟨hv, l, p0, p1, hok⟩ := put_at (K := K) (H := H) (H' := upd H a (.lst (ys'.map A.val))) ss root a ys ys' hg
  obtain ⟨l1, q0, q1⟩ := footL_set hr
  obtain ⟨l2, p2⟩ := hp
  have go := okL_append.mp g.ok
  have oroot := okL_iff.mp go.2 root (List.mem_of_getElem? hr)
  obtain ⟨h1, h2, h3⟩ := hok oroot
  have fr : Fr [a] H (upd H a (.lst (ys'.map A.val))) := .put
  have wr : Wr [a] H := fun b m => by
    have : b = a := by simpa using m
    subst this; exact ⟨_, h1⟩
  -- all parts, before
  have old : (footL (xs0 ++ α)).Perm ((true, a) :: (footL (Δ ++ ys') ++ l2 ++ (l ++ l1))) := by
    rw [footL_append]
    have s1 : (footL α).Perm ((true, a) :: (footL ys ++ l ++ l1)) := q0.trans (List.Perm.append_right l1 p0)
    refine (List.Perm.append_left _ s1).trans (List.perm_middle.trans (List.Perm.cons _ ?_))
    rw [List.append_assoc (footL ys), ← List.append_assoc (footL xs0), ← footL_append]
    exact List.Perm.append_right _ p2
  have new : (footL (Δ ++ α.set i (A.put (.lst a ys') root ss))).Perm ((true, a) :: (footL (Δ ++ ys') ++ (l ++ l1))) := by
    rw [footL_append, footL_append]
    have s1 : (footL (α.set i (A.put (.lst a ys') root ss))).Perm ((true, a) :: (footL ys' ++ l ++ l1)) := (q1 _).trans (List.Perm.append_right l1 p1)
    refine (List.Perm.append_left _ s1).trans (List.perm_middle.trans (List.Perm.cons _ ?_))
    rw [List.append_assoc (footL ys'), ← List.append_assoc (footL Δ)]
  have nd := (old.map (·.2)).nodup_iff.mp g.nd
  rw [List.map_cons, List.nodup_cons] at nd
  have na : ∀ p, p ∈ footL (Δ ++ ys') ++ l2 ++ (l ++ l1) → p.2 ≠ a := fun p hp e => nd.1 (List.mem_map.mpr ⟨p, hp, e⟩)
  have om : okL K (upd H a (.lst (ys'.map A.val))) (Δ ++ ys') := ok_frL fr wr _ ho fun p mp e => na p (List.mem_append_left _ (List.mem_append_left _ mp)) (by simpa using e)
  have or' := h3 fr upd_same hl (okL_append.mp om).2 fun p mp => na p (List.mem_append_right _ (List.mem_append_left _ mp))
  have oth : okL K (upd H a (.lst (ys'.map A.val))) (α.set i .non) := ok_frL fr wr _ (okL_set go.2 trivial) fun p mp e => by
    have mp := (q1 .non).mem_iff.mp mp
    have : p ∈ l1 := by simpa [A.foot] using mp
    exact na p (List.mem_append_right _ (List.mem_append_right _ this)) (by simpa using e)
  have oα : okL K (upd H a (.lst (ys'.map A.val))) (α.set i (A.put (.lst a ys') root ss)) := by
    have := okL_set (i := i) oth or'
    rwa [List.set_set] at this
  refine ⟨⟨⟨okL_append.mpr ⟨(okL_append.mp om).1, oα⟩, ?_⟩, fr.mono fun b m => ?_, fun p mp => .inl (old.mem_iff.mpr ?_)⟩, hv⟩
  · refine (new.map (·.2)).nodup_iff.mpr ?_
    rw [List.map_cons, List.nodup_cons]
    have sub : ((footL (Δ ++ ys') ++ (l ++ l1)).map (·.2)).Sublist ((footL (Δ ++ ys') ++ l2 ++ (l ++ l1)).map (·.2)) := by
      refine List.Sublist.map _ ?_
      rw [List.append_assoc]
      exact List.Sublist.append_left (List.sublist_append_right _ _) _
    exact ⟨fun z => nd.1 (sub.subset z), nd.2.sublist sub⟩
  · have : b = a := by simpa using m
    subst this
    refine mem_wrL.mpr (q0.mem_iff.mpr (List.mem_append_left _ (p0.mem_iff.mpr List.mem_cons_self)))
  · rcases List.mem_cons.mp (new.mem_iff.mp mp) with e | e
    · rw [e]; exact List.mem_cons_self
    · refine List.mem_cons_of_mem _ ?_
      rcases List.mem_append.mp e with e | e
      · exact List.mem_append_left _ (List.mem_append_left _ e)
      · exact List.mem_append_right _ e
theorem Mt.same {σ : L2.St} {α : List A} {i : Nat} {x y : A} (m : Mt σ α) (h : α[i]? = some x) (hn : x ≠ .no) (hv : y.val = x.val) : Mt σ (α.set i y) := by
  refine ⟨by rw [List.length_set]; exact m.len, fun j z hz => ?_⟩
  by_cases e : i = j
  · subst e
    rw [List.getElem?_set_self (List.getElem?_eq_some_iff.mp h).1] at hz
    cases hz
    rw [hv]
    exact .inr ((m.at_ i x h).resolve_left hn)
  · rw [List.getElem?_set_ne e] at hz
    exact m.at_ j z hz
end
section
variable {X : Cx} {gl : Nat → Option D} {call : Nat → List D → R D} {XR : XRel} {W : WX} {fuel : Nat} {ok : Nat → Bool} {pos : Pos}
def tP (K : PySem.W.Frag) (gl : Nat → Option D) (call : Nat → List D → R D) (XR : XRel) (W : WX) (p : Ev.P) : TE := fun σ H Q => ∃ α, Mt σ α ∧ Good K H α ∧
  (evP gl call p (erL α)).sat (fun q _ => ∃ x y, α[q.1]? = some x ∧ x ≠ .no ∧ A.get x q.2 = some y ∧ ∀ H', Fr [] H H' → Q y.val H') (EX K XR W σ α H)
theorem Good.grow {K : PySem.W.Frag} {H H' : Hp} {α : List A} (g : Good K H α) (f : Fr [] H H') : Good K H' α := ⟨okL_grow f g.ok, g.nd⟩
theorem Stp.grow {K : PySem.W.Frag} {H H' : Hp} {W : List Addr} {α : List A} (g : Good K H α) (f : Fr [] H H') : Stp K W α H α H' := ⟨g.grow f, f.mono (by simp), fun p m => .inl m⟩
theorem rd_er' {α : List A} {i : Nat} {d : D} (h : rd (erL α) i = some d) : ∃ x, α[i]? = some x ∧ x.er = d ∧ x ≠ .no := rd_er h
theorem s_rootP {i : Nat} {x : Str} (hN : X.N[i]? = some x) (hv : Vis X.env.scope x) (hd : (x == ("__debug__" : Str)) = false) (hcd : (x == ("__classdict__" : Str)) = false) : PE X (.Name x pos) (tP X.K gl call XR W (.root i)) :=
  impE (pe_var hN hv hd hcd) fun σ H Q q => by
    obtain ⟨α, m, g, x, y, h1, h2, h3, k⟩ := q
    cases h3
    exact ⟨_, (m.at_ _ _ h1).resolve_left h2, k H .refl⟩
theorem get_one {y w : A} {d : D} (h : A.get y [d] = some w) : ∃ a ys k j, y = .lst a ys ∧ d = .int k ∧ Ev.ixN ys.length k = some j ∧ ys[j]? = some w := by
  obtain ⟨a, xs, k, j, z, rfl, rfl, e1, e2, e3⟩ := get_cons h
  simp only [A.get, Option.some.injEq] at e3
  subst e3
  exact ⟨a, xs, k, j, rfl, rfl, e1, e2⟩
theorem get_ok {K : PySem.W.Frag} {H : Hp} : ∀ (ss : List D) (x y : A), A.get x ss = some y → x.ok K H → y.ok K H
  | [], x, y, h, o => by
    simp only [A.get, Option.some.injEq] at h
    exact h ▸ o
  | s :: ss, x, y, h, o => by
    obtain ⟨a, xs, k, j, z, rfl, rfl, e1, e2, e3⟩ := get_cons h
    rw [A.ok] at o
    exact get_ok ss z y e3 (okL_iff.mp o.2.2 z (List.mem_of_getElem? e2))
/-- an index of a place, nothing changes -/
theorem quietV {e : Ev.E} {σ : L2.St} {α : List A} {H H1 : Hp} {K : PySem.W.Frag} {β : Type} {F : D → Env → R β} {P : β → Env → Prop} {Q : VK} (hq : e.quiet = true) (m : Mt σ α) (g : Good K H α) (f : Fr [] H H1) (s : ((evM gl call e .v (erL α)).bind F).sat P (EX K XR W σ α H))
    (k : ∀ (x : A) (ρ : Env) (H2 : Hp), Fr [] H1 H2 → (F x.er ρ).sat P (EX K XR W σ α H) → Q x.val H2) : tV K gl call XR W e σ H1 Q := by
  refine ⟨α, m, g.grow f, sat_mono (sat_bind.mp s) (fun d ρ h x α' H2 e1 e2 m' st => ?_) fun _ _ z => EX.on (q := false) (Stp.grow g f) z⟩
  subst e1
  have fr := st.fr
  unfold Wof at fr
  rw [if_pos hq] at fr
  exact k x ρ H2 fr h
theorem s_atP {p : Ev.P} {e : Ev.E} {ep ei : Expr} (hp : PE X ep (tP X.K gl call XR W p)) (he : SE X gl call XR W e ei) (hq : e.quiet = true) (hpl : plainE ei = true) : PE X (.Subscript ep ei pos) (tP X.K gl call XR W (.at p e)) := by
  refine impE (pe_ix ix_seq hp he.v (plainIx hpl)) fun σ H Q q => ?_
  obtain ⟨α, m, g, s⟩ := q
  refine ⟨α, m, g, sat_mono (sat_bind.mp s) (fun q ρ f => ?_) fun _ _ z => z⟩
  obtain ⟨d0, e0, f1⟩ := sat_opt.mp f
  obtain ⟨d1, e1, f2⟩ := sat_opt.mp f1
  clear f f1
  obtain ⟨x, x1, rfl, x3⟩ := rd_er e0
  obtain ⟨y, y1, rfl⟩ := get_er _ _ _ e1
  refine ⟨x, y, x1, x3, y1, fun H1 fr => ?_⟩
  refine quietV hq m g fr f2 fun k ρ H2 fr2 f => ?_
  obtain ⟨x', w, x1', x3', w1, kk⟩ := f
  rw [x1] at x1'
  cases x1'
  simp only [get_append, y1, Option.bind_some] at w1
  obtain ⟨a, ys, i, j, rfl, ek, ej, ew⟩ := get_one w1
  have oy := ok_grow fr2 (ok_grow fr (get_ok _ _ _ y1 (okL_iff.mp g.ok x (List.mem_of_getElem? x1))))
  rw [er_int ek]
  rw [A.ok] at oy
  refine .inl ⟨a, _, i, w.val, rfl, rfl, SqL.of oy.1, ?_, kk H2 ⟨fun b o h n => fr2.1 b o (fr.1 b o h (by simp)) (by simp), fun b h => fr2.2 b (fr.2 b h)⟩⟩
  unfold atI
  rw [← ixN_eq, List.length_map, ej]
  simp only [Option.bind_some, List.getElem?_map, ew]
  rfl
theorem upd_some {f : D → Option D} : ∀ (ss : List D) (x y : A) (d' : D), A.get x ss = some y → D.upd f x.er ss = some d' → ∃ w, f y.er = some w
  | [], x, y, d', h, hu => by
    simp only [A.get, Option.some.injEq] at h
    subst h
    exact ⟨d', by simpa only [D.upd] using hu⟩
  | s :: ss, x, y, d', h, hu => by
    obtain ⟨a, xs, k, j, z, rfl, rfl, e1, e2, e3⟩ := get_cons h
    simp only [A.er, D.upd, erL_length, e1, erL_get, e2, Option.map_some] at hu
    obtain ⟨w, e4, rfl⟩ := Option.map_eq_some_iff.mp hu
    exact upd_some ss z y w e3 e4
/-- the target o[i] -/
def tGp (K : PySem.W.Frag) (gl : Nat → Option D) (call : Nat → List D → R D) (XR : XRel) (W : WX) (p : Ev.P) : TG := fun v σ H Q => ∃ x α, v = x.val ∧ Mt σ α ∧ Good K H (x :: α) ∧
  (evP gl call p (erL α)).sat (fun q _ => ∃ d d', rd (erL α) q.1 = some d ∧ D.putAt x.er d q.2 = some d' ∧ ∀ α' H', erL α' = (erL α).set q.1 d' → Mt σ α' → Stp K (wrL α) (x :: α) H α' H' → Q σ H') (EX K XR W σ α H)
theorem s_subG {p : Ev.P} {e : Ev.E} {ep ei : Expr} (hp : PE X ep (tP X.K gl call XR W p)) (he : SE X gl call XR W e ei) (hq : e.quiet = true) (hpl : plainE ei = true) : PG X (.Subscript ep ei pos) (tGp X.K gl call XR W (.at p e)) := by
  refine impG (pg_sub hp he.v set_list (fun v => by cases ei <;> first | rfl | (simp [plainE] at hpl))) fun v σ H Q q => ?_
  obtain ⟨x, α, rfl, m, g, s⟩ := q
  refine ⟨α, m, g.tail, sat_mono (sat_bind.mp s) (fun q ρ f => ?_) fun _ _ z => z⟩
  obtain ⟨d0, e0, f1⟩ := sat_opt.mp f
  obtain ⟨d1, e1, f2⟩ := sat_opt.mp f1
  clear f f1
  obtain ⟨r, x1, rfl, x3⟩ := rd_er e0
  obtain ⟨y, y1, rfl⟩ := get_er _ _ _ e1
  refine ⟨r, y, x1, x3, y1, fun H1 fr => ?_⟩
  refine quietV hq m g.tail fr f2 fun k ρ H2 fr2 f => ?_
  obtain ⟨d, d', e2, e3, kk⟩ := f
  simp only at e2
  rw [e0] at e2
  cases e2
  simp only [D.putAt, List.getLast?_append, List.getLast?_singleton, Option.some_or, List.dropLast_concat] at e3
  -- the list that is written
  obtain ⟨w, hw⟩ := upd_some _ _ _ _ y1 e3
  obtain ⟨a, ys, i, j, rfl, ek, ej⟩ : ∃ a ys i j, y = .lst a ys ∧ k.er = .int i ∧ Ev.ixN ys.length i = some j := by
    split at hw
    · rename_i ds i' e4 e5
      obtain ⟨a, ys, rfl, rfl⟩ := er_lst' e4
      obtain ⟨j, ej, _⟩ := Option.map_eq_some_iff.mp hw
      rw [erL_length] at ej
      exact ⟨a, ys, i', j, rfl, e5, ej⟩
    · cases hw
  have hd : d' = (A.put (.lst a (ys.set j x)) r q.2).er := by
    refine upd_er _ _ (.lst a ys) (.lst a (ys.set j x)) d' y1 ?_ e3
    rw [ek]
    simp only [A.er, erL_length, ej, Option.map_some, erL_set]
  have fr0 : Fr [] H H2 := ⟨fun b o h n => fr2.1 b o (fr.1 b o h (by simp)) (by simp), fun b h => fr2.2 b (fr.2 b h)⟩
  have g2 : Good X.K H2 ([x] ++ α) := g.grow fr0
  have oy := get_ok _ _ _ y1 (okL_iff.mp (okL_append.mp g2.ok).2 r (List.mem_of_getElem? x1))
  rw [A.ok] at oy
  have hj : j < ys.length := by
    unfold Ev.ixN at ej
    split at ej
    · split at ej <;> simp at ej; omega
    · split at ej <;> simp at ej; omega
  obtain ⟨l, p0, p1⟩ := footL_set (α := ys) (i := j) (x := ys[j]) (by simp [hj])
  have wk := write_ok (Δ := []) (ys' := ys.set j x) g2 x1 y1 (by rw [List.length_set]; exact oy.2.1) (by rw [List.nil_append]; exact okL_set oy.2.2 g2.ok.1) ⟨(ys[j]).foot, by
    show (x.foot ++ footL ys).Perm (footL (ys.set j x) ++ (ys[j]).foot)
    refine (List.Perm.append_left _ p0).trans ?_
    refine List.Perm.trans ?_ (List.Perm.append_right _ (p1 x)).symm
    rw [List.append_assoc]
    exact List.Perm.append_left _ List.perm_append_comm⟩
  rw [er_int ek]
  refine ⟨a, _, i, j, rfl, rfl, oy.1, by rw [List.length_map, ← ixN_eq]; exact ej, ?_⟩
  have em : (ys.map A.val).set j x.val = (ys.set j x).map A.val := by rw [List.map_set]
  rw [em]
  refine kk (α.set q.1 (A.put (.lst a (ys.set j x)) r q.2)) _ (by rw [erL_set, hd]) (m.same x1 x3 wk.2) ?_
  exact (Stp.grow (W := wrL α) g fr0).trans wk.1 fun b hb => .inl hb
theorem swS_false {e t : Expr} {l : Nat} {env : PySem.Env} (h : noComp e = true) : swapsWithSole [t] e l env = pure false := (show swapsWithSole [t] e l env = swapsWith e (some t) l env from rfl).trans (sw_false h)
/-- o[i] = value -/
theorem s_putS {e i : Ev.E} {p : Ev.P} {ex ep ei : Expr} {p2 : Pos} (he : SE X gl call XR W e ex) (hp : PE X ep (tP X.K gl call XR W p)) (hi : SE X gl call XR W i ei) (hq : i.quiet = true) (hpl : plainE ei = true) (hn : noComp ex = true) :
    PS X (.Assign [.Subscript ep ei p2] ex pos) (tS X.K gl call XR W fuel ok (.put (.at p i) e)) := by
  refine impS (ps_asg he.v (s_subG hp hi hq hpl) (swS_false hn) rfl) fun D σ H q => ?_
  obtain ⟨α, m, g, s⟩ := q
  have s0 : O.sat X.K XR W ok σ α H D ((evM gl call e .v (erL α)).o fun v ρ1 => (evP gl call (.at p i) ρ1).o fun q _ => optO (rd ρ1 q.1) fun d => optO (Ev.D.putAt v d q.2) fun d' => .nx (ρ1.set q.1 d')) := s
  refine ⟨α, m, g, sat_mono (osat_o s0) (fun d ρ f x α1 H1 e1 e2 m1 st => ?_) fun _ _ z => z⟩
  subst e1 e2
  have st1 : Stp X.K (wrL α) α H α1 H1 := Stp.right (Δ := [x]) st.asF
  refine ⟨x, α1, rfl, m1, st.good, sat_mono (osat_o' ⟨m1, .refl, st1⟩ f) (fun q ρ f => ?_) fun _ _ z => z⟩
  obtain ⟨d, e1, f⟩ := osat_opt f
  obtain ⟨d', e2, f⟩ := osat_opt f
  exact ⟨d, d', e1, e2, fun α' H' ea m' st' => f σ α' H' ea ⟨m', .refl, st.asF.trans st' st1.wsub⟩⟩
/-- name op= value -/
theorem s_augS {i : Nat} {o : Op2} {op : Operator} {x : Str} {e : Ev.E} {ex : Expr} {p2 : Pos} (ho : (o = .add ∧ op = .Add) ∨ (o = .sub ∧ op = .Sub)) (hN : X.N.Nodup) (hi : X.N[i]? = some x) (hx : Loc X.env.scope x) (hf : X.fn x = true ∨ X.env.scope.names.lookup x = some .local) (he : SE X gl call XR W e ex) :
    PS X (.AugAssign (.Name x p2) op ex pos) (tS X.K gl call XR W fuel ok (.aug i o e)) := by
  have core : ∀ (fn : Int → Int → Int), (∀ a b, o.runI a b = some (fn a b)) → ∀ D σ H, tS X.K gl call XR W fuel ok (.aug i o e) D σ H → tAug i (tV X.K gl call XR W e) (ipI fn) D σ H := by
    intro fn hf D σ H q
    obtain ⟨α, m, g, s⟩ := q
    obtain ⟨d, ed, s⟩ := osat_opt s
    obtain ⟨a, ea, s⟩ := osat_opt s
    rw [int?_some ea] at ed
    obtain ⟨y, y1, y2, y3⟩ := rd_at m ed
    rw [er_int y2] at y3
    refine ⟨_, y3, α, m, g, sat_mono (osat_o s) (fun d ρ f x α1 H1 e1 e2 m1 st => ?_) fun _ _ z => z⟩
    subst e1 e2
    obtain ⟨b, eb, f⟩ := osat_opt f
    obtain ⟨z, ez, f⟩ := osat_opt f
    obtain ⟨ρ', er, f⟩ := osat_opt f
    rw [hf] at ez
    cases ez
    refine ⟨a, b, rfl, by rw [er_int (int?_some eb)]; rfl, ?_⟩
    simp only [stT] at er
    split at er
    · rename_i c
      cases er
      rw [erL_length] at c
      have st1 : Stp X.K (wrL α) α H α1 H1 := Stp.right (Δ := [x]) st.asF
      have gz : Good X.K H1 (A.int (fn a b) :: α1) := st1.good.imm (w := A.int (fn a b)) trivial rfl
      have gs := gz.store c.1
      refine f (σ.set i (some (A.int (fn a b)).val)) (α1.set i (.int (fn a b))) H1 (by rw [erL_set]; rfl) ⟨m1.store, ⟨by rw [List.length_set], fun j hj => ?_⟩, st1.trans (W' := []) (stp_same gs.1 fun p mp => by have := gs.2 p mp; simpa [footL, A.foot] using this) (by simp)⟩
      have : i ≠ j := fun e => by subst e; rw [c.2] at hj; cases hj
      exact List.getElem?_set_ne this
    · cases er
  rcases ho with ⟨rfl, rfl⟩ | ⟨rfl, rfl⟩
  · exact impS (ps_aug hN hi hx he.v ip_add hf) (core _ fun _ _ => rfl)
  · exact impS (ps_aug hN hi hx he.v ip_sub hf) (core _ fun _ _ => rfl)
end
end Ev
end

section
set_option Elab.async false
set_option linter.all false
set_option maxRecDepth 100000
/-! EvB13: methods of lists; several names stored at once. -/
namespace Ev
open PySem L2
def Mth.id : Mth → String
  | .append => "list.append"
  | .extend => "list.extend"
  | .pop => "list.pop"
  | .reverse => "list.reverse"
  | _ => ""
def Mth.nm : Mth → Str
  | .append => "append"
  | .extend => "extend"
  | .pop => "pop"
  | .reverse => "reverse"
  | _ => ""
def Mth.r : Mth → V → List V → Hp → VK → Prop
  | .append => rAppend
  | .extend => rExtend
  | .pop => rPop
  | .reverse => rReverse
  | _ => fun _ _ _ _ => False
def Mth.known : Mth → Bool
  | .append | .extend | .pop | .reverse => true
  | _ => false
theorem Mth.is {X : Cx} : ∀ {k : Mth}, k.known = true → MtR X k.id k.r
  | .append, _ => mt_append
  | .extend, _ => mt_extend
  | .pop, _ => mt_pop
  | .reverse, _ => mt_reverse
  | .popAt, h => by cases h
  | .insert, h => by cases h
  | .remove, h => by cases h
  | .index, h => by cases h
  | .count, h => by cases h
theorem Mth.slot : ∀ {k : Mth}, k.known = true → PySem.Slot "list" k.nm k.id
  | .append, _ => PySem.F.slot_list_append
  | .extend, _ => PySem.F.slot_list_extend
  | .pop, _ => PySem.F.slot_list_pop
  | .reverse, _ => PySem.F.slot_list_reverse
  | .popAt, h => by cases h
  | .insert, h => by cases h
  | .remove, h => by cases h
  | .index, h => by cases h
  | .count, h => by cases h
theorem Mth.ty : ∀ {k : Mth}, k.known = true → typeOf (.builtin k.id) = pure (.type "method_descriptor")
  | .append, _ => PySem.F.type_list_append
  | .extend, _ => PySem.F.type_list_extend
  | .pop, _ => PySem.F.type_list_pop
  | .reverse, _ => PySem.F.type_list_reverse
  | .popAt, h => by cases h
  | .insert, h => by cases h
  | .remove, h => by cases h
  | .index, h => by cases h
  | .count, h => by cases h
theorem erL_reverse (xs : List A) : erL xs.reverse = (erL xs).reverse := by simp [erL_map]
theorem erL_eq_one {xs : List A} {d : D} (h : erL xs = [d]) : ∃ x, xs = [x] ∧ x.er = d := by
  cases xs with
  | nil => simp [erL] at h
  | cons x xs => cases xs with
    | nil => exact ⟨x, rfl, by simpa [erL] using h⟩
    | cons y ys => simp [erL] at h
theorem erL_eq_nil {xs : List A} (h : erL xs = []) : xs = [] := by
  cases xs with
  | nil => rfl
  | cons x xs => simp [erL] at h
theorem Mth.ok {K : PySem.W.Frag} {H : Hp} {k : Mth} {ys xs : List A} {a : Addr} {r : D × List D} (h : k.run (erL ys) (erL xs) = some r) (hH : H a = some (.lst (ys.map A.val))) (ox : okL K H xs) (oy : okL K H ys) (ol : ys.length ≤ line) :
    ∃ (w : A) (ys' : List A), w.er = r.1 ∧ erL ys' = r.2 ∧ ys'.length ≤ line ∧ okL K H ([w] ++ ys') ∧ (∃ l, (footL (xs ++ ys)).Perm (footL ([w] ++ ys') ++ l)) ∧
      ∀ Q : VK, Q w.val (upd H a (.lst (ys'.map A.val))) → k.r (.ref a) (xs.map A.val) H Q := by
  unfold Mth.run at h
  split at h
  · rename_i x e
    obtain ⟨z, rfl, rfl⟩ := erL_eq_one e
    split at h
    · rename_i hl
      cases h
      rw [erL_length] at hl
      refine ⟨.non, ys ++ [z], rfl, by rw [erL_append]; rfl, by rw [List.length_append]; exact hl, show okL K H (.non :: (ys ++ [z])) from ⟨trivial, okL_append.mpr ⟨oy, ox⟩⟩, ⟨[], ?_⟩, fun Q q => ⟨a, _, z.val, rfl, rfl, hH, by rw [List.length_map, ← line_eq]; exact hl, ?_⟩⟩
      · rw [List.append_nil]
        show (footL ([z] ++ ys)).Perm (footL (ys ++ [z]))
        rw [footL_append, footL_append]
        exact List.perm_append_comm
      · rw [List.map_append] at q; exact q
    · cases h
  · rename_i zs e
    obtain ⟨z, rfl, ez⟩ := erL_eq_one e
    obtain ⟨b, zs', rfl, rfl⟩ := er_lst' ez
    split at h
    · rename_i hl
      cases h
      rw [erL_length, erL_length] at hl
      have ob := ox.1
      rw [A.ok] at ob
      refine ⟨.non, ys ++ zs', rfl, by rw [erL_append], by rw [List.length_append]; exact hl.1, show okL K H (.non :: (ys ++ zs')) from ⟨trivial, okL_append.mpr ⟨oy, ob.2.2⟩⟩, ⟨[(true, b)], ?_⟩, fun Q q => ⟨a, b, _, _, rfl, rfl, hH, ob.1, by rw [List.length_map, List.length_map, ← line_eq]; exact hl.1, ?_⟩⟩
      · show ((A.lst b zs').foot ++ footL ys).Perm (footL (ys ++ zs') ++ [(true, b)])
        rw [footL_append, A.foot, List.cons_append]
        refine (List.Perm.cons _ List.perm_append_comm).trans ?_
        exact (List.perm_append_singleton _ _).symm
      · rw [List.map_append] at q; exact q
    · cases h
  · rename_i e
    have := erL_eq_nil e
    subst this
    split at h
    · rename_i v ev
      cases h
      rw [erL_map, List.getLast?_map] at ev
      obtain ⟨w, ew, rfl⟩ := Option.map_eq_some_iff.mp ev
      have hne : ys ≠ [] := by rintro rfl; simp at ew
      have hw : ys.dropLast ++ [w] = ys := by
        rw [List.getLast?_eq_some_getLast hne, Option.some.injEq] at ew
        rw [← ew]
        exact List.dropLast_concat_getLast hne
      have oy' : okL K H (ys.dropLast ++ [w]) := by rw [hw]; exact oy
      have oo := okL_append.mp oy'
      refine ⟨w, ys.dropLast, rfl, by rw [erL_map, erL_map, List.map_dropLast], by rw [List.length_dropLast]; omega, okL_append.mpr ⟨oo.2, oo.1⟩, ⟨[], ?_⟩, fun Q q => ⟨a, _, w.val, rfl, rfl, hH, ?_, ?_⟩⟩
      · rw [List.append_nil, List.nil_append]
        conv => lhs; rw [← hw]
        rw [footL_append, footL_append]
        exact List.perm_append_comm
      · have : (ys.map A.val)[(ys.map A.val).length - 1]? = (ys.map A.val).getLast? := List.getLast?_eq_getElem?.symm
        rw [this, List.getLast?_map, ew]; rfl
      · rw [List.map_dropLast] at q; exact q
    · cases h
  · rename_i e
    have := erL_eq_nil e
    subst this
    cases h
    have pr : (footL ys.reverse).Perm (footL ys) := by
      clear oy ol hH
      induction ys with
      | nil => exact .refl _
      | cons y ys ih =>
        rw [List.reverse_cons, footL_append, footL]
        refine (List.Perm.append_right _ ih).trans ?_
        rw [footL, footL, List.append_nil]
        exact List.perm_append_comm
    refine ⟨.non, ys.reverse, rfl, erL_reverse ys, by rw [List.length_reverse]; exact ol, show okL K H (.non :: ys.reverse) from ⟨trivial, okL_iff.mpr fun x m => okL_iff.mp oy x (by simpa using m)⟩, ⟨[], ?_⟩, fun Q q => ⟨a, _, rfl, rfl, hH, ?_⟩⟩
    · rw [List.append_nil]
      exact pr.symm
    · rw [List.map_reverse] at q; exact q
  · cases h
theorem get_det {K : PySem.W.Frag} {H : Hp} : ∀ (ss : List D) (x x2 y y2 : A), A.get x ss = some y → A.get x2 ss = some y2 → x.ok K H → x2.ok K H → x.val = x2.val → y.val = y2.val
  | [], x, x2, y, y2, h, h2, _, _, e => by
    simp only [A.get, Option.some.injEq] at h h2
    rw [← h, ← h2]; exact e
  | s :: ss, x, x2, y, y2, h, h2, o, o2, e => by
    obtain ⟨a, xs, k, j, z, rfl, rfl, e1, e2, e3⟩ := get_cons h
    obtain ⟨a', xs', k', j', z', rfl, ek, f1, f2, f3⟩ := get_cons h2
    cases ek
    have ea : a = a' := by simpa [A.val] using e
    subst ea
    rw [A.ok] at o o2
    have em : xs.map A.val = xs'.map A.val := by
      have := o.1.symm.trans o2.1
      simpa using this
    have ln : xs.length = xs'.length := by simpa using congrArg List.length em
    rw [ln, f1] at e1
    cases e1
    refine get_det ss z z' y y2 e3 f3 (okL_iff.mp o.2.2 z (List.mem_of_getElem? e2)) (okL_iff.mp o2.2.2 z' (List.mem_of_getElem? f2)) ?_
    have := congrArg (fun l => l[j]?) em
    simp only [List.getElem?_map, e2, f2, Option.map_some, Option.some.injEq] at this
    exact this
theorem sat_and {α : Type} {r : Ev.R α} {P P' : α → Env → Prop} {E E' : Ex → Env → Prop} (h : r.sat P E) (h' : r.sat P' E') : r.sat (fun a ρ => P a ρ ∧ P' a ρ) (fun x ρ => E x ρ ∧ E' x ρ) := by
  cases r with
  | ok a ρ => exact ⟨h, h'⟩
  | rz x ρ => exact ⟨h, h'⟩
  | st => exact h
theorem lst?_some {d : D} {xs : List D} (h : d.lst? = some xs) : d = .lst xs := by cases d <;> simp [D.lst?] at h <;> rw [h]
section
variable {X : Cx} {gl : Nat → Option D} {call : Nat → List D → R D} {XR : XRel} {W : WX} {fuel : Nat} {ok : Nat → Bool} {pos : Pos}
theorem mth_core {k : Mth} {p : Ev.P} {es : Ev.Es} {σ : L2.St} {H : Hp} {Q : VK} {K : PySem.W.Frag} (hq : p.isRoot = true ∨ es.quiet = true) (q : tV K gl call XR W (.mth k p es) σ H Q) :
    tP K gl call XR W p σ H fun x H1 => tyV K "list" x H1 ∧ tEs K gl call XR W es σ H1 fun xs H2 => k.r x xs H2 Q := by
  obtain ⟨α, m, g, s⟩ := q
  have s := sat_bind.mp s
  have hr : (evP gl call p (erL α)).sat (fun q ρ => p.isRoot = true → q.2 = []) fun _ _ => True := by
    cases hp : evP gl call p (erL α) with
    | ok a ρ =>
      intro h
      cases p with
      | root i => cases hp; rfl
      | «at» p e => simp [P.isRoot] at h
    | rz x ρ => trivial
    | st => rw [hp] at s; exact s.elim
  refine ⟨α, m, g, sat_mono (sat_and s hr) (fun q ρ f00 => ?_) fun _ _ z => z.1⟩
  obtain ⟨f0, hroot⟩ := f00
  obtain ⟨d0, e0, f1⟩ := sat_opt.mp f0
  obtain ⟨c0, e1, f2⟩ := sat_opt.mp f1
  obtain ⟨zs, e2, f3⟩ := sat_opt.mp f2
  clear f0 f1 f2 s
  obtain ⟨x, x1, rfl, x3⟩ := rd_er e0
  obtain ⟨y, y1, rfl⟩ := get_er _ _ _ e1
  obtain ⟨a, ys, rfl, rfl⟩ := er_lst' (lst?_some e2)
  refine ⟨x, _, x1, x3, y1, fun H1 fr => ?_⟩
  have ox := ok_grow fr (okL_iff.mp g.ok x (List.mem_of_getElem? x1))
  have oy := get_ok _ _ _ y1 ox
  have oy' := oy
  rw [A.ok] at oy'
  refine ⟨.inl ⟨rfl, _, SqL.of oy'.1⟩, α, m, g.grow fr, sat_mono (sat_bind.mp f3) (fun ds ρ2 f xs α2 H2 ea eb m2 st => ?_) fun _ _ z => EX.on (q := false) (Stp.grow g fr) z⟩
  subst ea eb
  obtain ⟨d, h1, f4⟩ := sat_opt.mp f
  obtain ⟨c, h2, f5⟩ := sat_opt.mp f4
  obtain ⟨zs2, h3, f6⟩ := sat_opt.mp f5
  obtain ⟨r, h4, f7⟩ := sat_opt.mp f6
  obtain ⟨d', h5, f8⟩ := sat_opt.mp f7
  clear f f4 f5 f6 f7
  obtain ⟨x2, x21, rfl, x23⟩ := rd_er h1
  obtain ⟨y2, y21, rfl⟩ := get_er _ _ _ h2
  obtain ⟨a2, ys2, rfl, rfl⟩ := er_lst' (lst?_some h3)
  have ox2 := okL_iff.mp (okL_append.mp st.good.ok).2 x2 (List.mem_of_getElem? x21)
  have hval : x.val = x2.val := by
    have v1 := (m.at_ _ _ x1).resolve_left x3
    have v2 := (m2.at_ _ _ x21).resolve_left x23
    rw [v1] at v2
    simpa using v2
  have ea : a2 = a := by
    rcases hq with hq | hq
    · have := hroot hq
      rw [this] at y1 y21
      simp only [A.get, Option.some.injEq] at y1 y21
      rw [y1, y21] at hval
      simpa [A.val] using hval.symm
    · have fr2 := st.fr
      unfold Wof at fr2
      rw [if_pos hq] at fr2
      have := get_det _ _ _ _ _ y1 y21 (ok_grow fr2 ox) ox2 hval
      simpa [A.val] using this.symm
  subst ea
  have oy2 := get_ok _ _ _ y21 ox2
  rw [A.ok] at oy2
  obtain ⟨w, ys', w1, w2, w3, w4, w5, w6⟩ := Mth.ok h4 oy2.1 (okL_append.mp st.good.ok).1 oy2.2.2 oy2.2.1
  refine w6 Q ?_
  have wk := write_ok st.good x21 y21 w3 w4 w5
  have hd : d' = (A.put (.lst a2 ys') x2 q.2).er := upd_er _ _ (.lst a2 ys2) (.lst a2 ys') d' y21 (by rw [A.er, w2]) h5
  have s01 : Stp K (wrL α) α H (xs ++ α2) H2 := (Stp.grow (W := wrL α) g fr).trans st.asF fun b hb => .inl hb
  refine f8 w (α2.set q.1 (A.put (.lst a2 ys') x2 q.2)) _ w1 (by rw [erL_set, hd]) (m2.same x21 x23 wk.2) ?_
  exact s01.trans wk.1 fun b hb => s01.wsub b (mem_wrL.mpr (by rw [footL_append]; exact List.mem_append_right _ (mem_wrL.mp hb)))
/-- o.m() -/
theorem s_mth0 {k : Mth} {p : Ev.P} {ep : Expr} {nm : Str} {p2 : Pos} (hk : k.known = true) (hn : nm = k.nm) (hp : PE X ep (tP X.K gl call XR W p)) (hbase : attributeBase ep nm X.env (eval ep X.env) = eval ep X.env) (hline : (p2.endLine == pos.line) = true) :
    SE X gl call XR W (.mth k p .nil) (.Call (.Attribute ep nm p2) [] [] pos) := by
  subst hn
  refine SE.temp (impE (pe_bm0 PySem.F.plainAttrs_list (Mth.slot hk) (Mth.ty hk) (Mth.is hk) hp hbase hline) fun σ H Q q => ?_) rfl (fun _ => rfl) (fun _ => rfl) fun _ _ => rfl
  obtain ⟨α, m, g, s⟩ := mth_core (.inr rfl) q
  refine ⟨α, m, g, sat_mono s (fun q ρ f => ?_) fun _ _ z => z⟩
  obtain ⟨x, y, h1, h2, h3, k⟩ := f
  refine ⟨x, y, h1, h2, h3, fun H' fr => ?_⟩
  obtain ⟨k1, α', m', g', k2⟩ := k H' fr
  exact ⟨k1, k2 [] α' H' rfl rfl m' (Stp.refl g')⟩
/-- o.m(e) -/
theorem s_mth1 {k : Mth} {p : Ev.P} {e : Ev.E} {ep ex : Expr} {nm : Str} {p2 : Pos} (hk : k.known = true) (hn : nm = k.nm) (hp : PE X ep (tP X.K gl call XR W p)) (he : SE X gl call XR W e ex) (hq : p.isRoot = true ∨ e.quiet = true) (hpl : plainE ex = true)
    (hbase : attributeBase ep nm X.env (eval ep X.env) = eval ep X.env) (hline : (p2.endLine == pos.line) = true) :
    SE X gl call XR W (.mth k p (.cons e .nil)) (.Call (.Attribute ep nm p2) [ex] [] pos) := by
  subst hn
  have h1 : starEach [ex] X.env = [(false, eval ex X.env)] := starCons hpl
  refine SE.temp (impE (pe_bm PySem.F.plainAttrs_list (Mth.slot hk) (Mth.ty hk) (Mth.is hk) hp (s_consE he s_nilE hpl) hbase (by rw [h1]; rfl) hline h1 rfl) fun σ H Q q => ?_) rfl (fun _ => rfl) (fun _ => rfl) fun _ _ => rfl
  exact mth_core (hq.imp id fun z => by show (e.quiet && true) = true; rw [z]; rfl) q
theorem setL_ok {K : PySem.W.Frag} : ∀ {is : List Nat} {xs : List A} {σ : L2.St} {α : List A} {H : Hp} {ρ : Env}, Mt σ α → Good K H (xs ++ α) → setL ok is (erL xs) (erL α) = some ρ →
    ∃ α', erL α' = ρ ∧ Mt ((is.zip xs).foldl (fun σ p => σ.set p.1 (some p.2.val)) σ) α' ∧ KeepS ok σ ((is.zip xs).foldl (fun σ p => σ.set p.1 (some p.2.val)) σ) ∧ Good K H α' ∧ (∀ p ∈ footL α', p ∈ footL (xs ++ α)) ∧ is.length = xs.length
  | [], [], σ, α, H, ρ, m, g, h => by
    simp [setL, erL] at h
    exact ⟨α, h, m, .refl, g, fun _ z => z, rfl⟩
  | [], x :: xs, σ, α, H, ρ, m, g, h => by simp [setL, erL] at h
  | i :: is, [], σ, α, H, ρ, m, g, h => by simp [setL, erL] at h
  | i :: is, x :: xs, σ, α, H, ρ, m, g, h => by
    simp only [erL, setL] at h
    split at h
    · rename_i c
      rw [erL_length] at c
      have g0 : Good K H (x :: (xs ++ α)) := g
      have pm : (footL (x :: (xs ++ α))).Perm (footL (xs ++ (x :: α))) := by
        rw [footL_append]
        show (x.foot ++ footL (xs ++ α)).Perm (footL xs ++ (x.foot ++ footL α))
        rw [footL_append, ← List.append_assoc, ← List.append_assoc]
        exact List.Perm.append_right _ List.perm_append_comm
      have gf : Good K H (xs ++ (x :: α)) := g0.perm (okL_append.mpr ⟨(okL_append.mp g0.ok.2).1, g0.ok.1, (okL_append.mp g0.ok.2).2⟩) pm
      have gs := gf.right.store c.1
      have g2 : Good K H (xs ++ α.set i x) := (Stp.frame (W := []) gf (stp_same gs.1 gs.2) (by simp)).good
      rw [← erL_set] at h
      obtain ⟨α', a1, a2, a3, a4, a5, a6⟩ := setL_ok (m.store (i := i) (x := x)) g2 h
      refine ⟨α', a1, a2, KeepS.trans ⟨by rw [List.length_set], fun j hj => ?_⟩ a3, a4, fun p mp => ?_, by rw [List.length_cons, List.length_cons, a6]⟩
      · have : i ≠ j := fun e => by subst e; rw [c.2] at hj; cases hj
        exact List.getElem?_set_ne this
      · refine pm.mem_iff.mpr ?_
        have := a5 p mp
        rw [footL_append] at this ⊢
        rcases List.mem_append.mp this with z | z
        · exact List.mem_append_left _ z
        · exact List.mem_append_right _ (gs.2 p z)
    · cases h
theorem zip_val : ∀ (is : List Nat) (xs : List A) (σ : L2.St), ((is.zip xs).foldl (fun σ p => σ.set p.1 (some p.2.val)) σ) = ((is.zip (xs.map A.val)).foldl (fun σ p => σ.set p.1 (some p.2)) σ)
  | [], _, _ => rfl
  | _ :: _, [], _ => rfl
  | i :: is, x :: xs, σ => zip_val is xs _
theorem par_core {is : List Nat} {es : Ev.Es} {D : Ends} {σ : L2.St} {H : Hp} {K : PySem.W.Frag} (q : tS K gl call XR W fuel ok (.par is es) D σ H) :
    tEs K gl call XR W es σ H fun vs H1 => is.length = vs.length ∧ D.nx ((is.zip vs).foldl (fun σ p => σ.set p.1 (some p.2)) σ) H1 := by
  obtain ⟨α, m, g, s⟩ := q
  refine ⟨α, m, g, sat_mono (osat_o s) (fun ds ρ f xs α1 H1 e1 e2 m1 st => ?_) fun _ _ z => z⟩
  subst e1 e2
  obtain ⟨ρ', e3, f1⟩ := osat_opt f
  obtain ⟨α', a1, a2, a3, a4, a5, a6⟩ := setL_ok m1 st.good e3
  refine ⟨by rw [List.length_map]; exact a6, ?_⟩
  rw [← zip_val]
  exact f1 _ α' H1 a1 ⟨a2, a3, st.asF.trans (W' := []) (stp_same a4 a5) (by simp)⟩
theorem s_parS {i j : Nat} {x y : Str} {es : Ev.Es} {a b : Expr} {px py pt : Pos} {kt k2 pt2} (hc : X.calm = true) (hN : X.N.Nodup) (hi : X.N[i]? = some x) (hj : X.N[j]? = some y) (hij : i ≠ j)
    (hx : X.env.scope.names.lookup x = some .local) (hy : X.env.scope.names.lookup y = some .local) (ha : PA X [a, b] (tEs X.K gl call XR W es))
    (hw : swappedStores [.Tuple [.Name x px, .Name y py] kt pt] (.Tuple [a, b] k2 pt2) X.env = pure (some [x, y])) :
    PS X (.Assign [.Tuple [.Name x px, .Name y py] kt pt] (.Tuple [a, b] k2 pt2) pos) (tS X.K gl call XR W fuel ok (.par [i, j] es)) := by
  refine impS (ps_par hc hN hi hj hij hx hy ha hw) fun D σ H q => ?_
  obtain ⟨α, m, g, s⟩ := par_core q
  refine ⟨α, m, g, sat_mono s (fun ds ρ f xs α1 H1 e1 e2 m1 st => ?_) fun _ _ z => z⟩
  obtain ⟨h1, h2⟩ := f xs α1 H1 e1 e2 m1 st
  rw [List.length_map] at h1
  match xs, h1, h2 with
  | [u, v], _, h2 => exact ⟨_, _, rfl, h2⟩
theorem s_parS3 {i j l : Nat} {x y z : Str} {es : Ev.Es} {a b c : Expr} {px py pz pt : Pos} {kt k2 pt2} (hc : X.calm = true) (hN : X.N.Nodup) (hi : X.N[i]? = some x) (hj : X.N[j]? = some y) (hl : X.N[l]? = some z) (hij : i ≠ j) (hil : i ≠ l) (hjl : j ≠ l)
    (hx : X.env.scope.names.lookup x = some .local) (hy : X.env.scope.names.lookup y = some .local) (hz : X.env.scope.names.lookup z = some .local) (ha : PA X [a, b, c] (tEs X.K gl call XR W es))
    (hw : swappedStores [.Tuple [.Name x px, .Name y py, .Name z pz] kt pt] (.Tuple [a, b, c] k2 pt2) X.env = pure (some [x, y, z])) :
    PS X (.Assign [.Tuple [.Name x px, .Name y py, .Name z pz] kt pt] (.Tuple [a, b, c] k2 pt2) pos) (tS X.K gl call XR W fuel ok (.par [i, j, l] es)) := by
  refine impS (ps_par3 hc hN hi hj hl hij hil hjl hx hy hz ha hw) fun D σ H q => ?_
  obtain ⟨α, m, g, s⟩ := par_core q
  refine ⟨α, m, g, sat_mono s (fun ds ρ f xs α1 H1 e1 e2 m1 st => ?_) fun _ _ z => z⟩
  obtain ⟨h1, h2⟩ := f xs α1 H1 e1 e2 m1 st
  rw [List.length_map] at h1
  match xs, h1, h2 with
  | [u, v, w], _, h2 => exact ⟨_, _, _, rfl, h2⟩
end
end Ev
end

section
set_option Elab.async false
set_option linter.all false
set_option maxRecDepth 100000
/-! EvB14: list comprehensions. -/
namespace Ev
open PySem L2
def wipeA (α : List A) : List Nat → List A
  | [] => α
  | v :: vs => (wipeA α vs).set v .no
theorem wipeA_er (α : List A) : ∀ vs : List Nat, erL (wipeA α vs) = Ev.wipe (erL α) vs
  | [] => rfl
  | v :: vs => by rw [wipeA, Ev.wipe, erL_set, wipeA_er α vs]; rfl
theorem wipeA_length (α : List A) : ∀ vs : List Nat, (wipeA α vs).length = α.length
  | [] => rfl
  | v :: vs => by rw [wipeA, List.length_set, wipeA_length α vs]
theorem wipe_len (σ : L2.St) (vs : List Nat) : (L2.wipe σ vs).length = σ.length := wipe_length σ vs
theorem wipeA_mt {σ : L2.St} {α : List A} (m : Mt σ α) : ∀ vs : List Nat, Mt (L2.wipe σ vs) (wipeA α vs)
  | [] => m
  | v :: vs => by
    have ih := wipeA_mt m vs
    refine ⟨by rw [wipe_len, wipeA_length]; exact m.len, fun j x h => ?_⟩
    rw [wipeA] at h
    by_cases e : v = j
    · subst e
      by_cases hl : v < (wipeA α vs).length
      · rw [List.getElem?_set_self hl] at h
        cases h; exact .inl rfl
      · rw [List.getElem?_eq_none (by simpa using hl)] at h; cases h
    · rw [List.getElem?_set_ne e] at h
      rw [L2.wipe, List.getElem?_set_ne e]
      exact ih.at_ j x h
theorem wipeA_good {K : PySem.W.Frag} {H : Hp} {α : List A} (g : Good K H α) : ∀ vs : List Nat, Good K H (wipeA α vs) ∧ ∀ p ∈ footL (wipeA α vs), p ∈ footL α
  | [] => ⟨g, fun _ h => h⟩
  | v :: vs => by
    obtain ⟨g1, s1⟩ := wipeA_good g vs
    by_cases hl : v < (wipeA α vs).length
    · obtain ⟨l, p0, p1⟩ := footL_set (α := wipeA α vs) (i := v) (x := (wipeA α vs)[v]) (by simp [hl])
      have p1' : (footL ((wipeA α vs).set v .no)).Perm l := by simpa [A.foot] using p1 .no
      refine ⟨g1.sub (okL_set g1.ok trivial) ⟨((wipeA α vs)[v]).foot, ?_⟩, fun p mp => s1 p (p0.mem_iff.mpr (List.mem_append_right _ (p1'.mem_iff.mp mp)))⟩
      exact p0.trans (List.perm_append_comm.trans (List.Perm.append_right _ p1'.symm))
    · rw [wipeA, List.set_eq_of_length_le (by omega)]
      exact ⟨g1, s1⟩
/-- names of the block forgotten: the state as it was -/
theorem unwipe_mt {σ : L2.St} {α : List A} {vs : List Nat} (m : Mt (L2.wipe σ vs) α) : Mt σ α := by
  refine ⟨by rw [← wipe_len σ vs]; exact m.len, fun j x h => ?_⟩
  rcases m.at_ j x h with q | q
  · exact .inl q
  · exact .inr (wipe_some q).1
theorem wipe_get {σ : L2.St} {i : Nat} : ∀ {vs : List Nat}, i ∈ vs → i < σ.length → (L2.wipe σ vs)[i]? = some none
  | v :: vs, h, hl => by
    rw [L2.wipe]
    by_cases e : v = i
    · subst e
      rw [List.getElem?_set_self (by rw [wipe_len]; exact hl)]
    · rw [List.getElem?_set_ne e]
      exact wipe_get ((List.mem_cons.mp h).resolve_left (fun z => e z.symm)) hl
theorem wipe_keep {σ σ2 : L2.St} {vs : List Nat} (k : KeepS (fun i => vs.contains i) (L2.wipe σ vs) σ2) : L2.wipe σ2 vs = L2.wipe σ vs := by
  have hl : σ2.length = σ.length := by rw [k.1, wipe_len]
  refine List.ext_getElem? fun i => ?_
  by_cases h : i ∈ vs
  · by_cases hi : i < σ.length
    · rw [wipe_get h hi, wipe_get h (by rw [hl]; exact hi)]
    · rw [List.getElem?_eq_none (by rw [wipe_len]; omega), List.getElem?_eq_none (by rw [wipe_len]; omega)]
  · rw [wipe_out h, k.2 i (by simpa using h)]
theorem compL_step {turn : D → Env → Ev.R (Option D)} {d : D} {ds : List D} {ρ : Env} {P : List D → Env → Prop} {E : Ex → Env → Prop} (h : (compL turn (d :: ds) ρ).sat P E) :
    (turn d ρ).sat (fun o ρ' => (compL turn ds ρ').sat (fun xs ρ'' => P (match o with | some x => x :: xs | none => xs) ρ'') E) fun _ _ => False := by
  rw [compL] at h
  cases ht : turn d ρ with
  | ok o ρ' =>
    rw [ht] at h
    show (compL turn ds ρ').sat _ _
    cases hc : compL turn ds ρ' with
    | ok xs ρ'' => simp only [hc] at h; exact h
    | rz x ρ'' => simp only [hc] at h; exact h.elim
    | st => simp only [hc] at h; exact h.elim
  | rz x ρ' => rw [ht] at h; exact h.elim
  | st => rw [ht] at h; exact h.elim
mutual
theorem stT_len {ok : Nat → Bool} : ∀ (t : Tg) (d : D) (ρ ρ' : Env), stT ok t d ρ = some ρ' → ρ'.length = ρ.length
  | .nm i, d, ρ, ρ', h => by
    simp only [stT] at h
    split at h
    · cases h; rw [List.length_set]
    · cases h
  | .tup ts, d, ρ, ρ', h => by
    simp only [stT] at h
    split at h
    · split at h
      · exact stTs_len ts _ ρ ρ' h
      · cases h
    · cases h
theorem stTs_len {ok : Nat → Bool} : ∀ (ts : Tgs) (ds : List D) (ρ ρ' : Env), stTs ok ts ds ρ = some ρ' → ρ'.length = ρ.length
  | .nil, ds, ρ, ρ', h => by
    simp only [stTs] at h
    split at h
    · cases h; rfl
    · cases h
  | .cons t ts, ds, ρ, ρ', h => by
    simp only [stTs] at h
    split at h
    · obtain ⟨ρ1, e1, e2⟩ := Option.bind_eq_some_iff.mp h
      exact (stTs_len ts _ _ _ e2).trans (stT_len t _ _ _ e1)
    · cases h
end
/-- tests of the clause -/
def tTs (K : PySem.W.Frag) (gl : Nat → Option D) (call : Nat → List D → R D) (XR : XRel) (W : WX) (c : Ev.E) : TT := tT K gl call XR W c
section
variable {X : Cx} {gl : Nat → Option D} {call : Nat → List D → R D} {XR : XRel} {W : WX} {fuel : Nat} {ok : Nat → Bool} {pos : Pos}
theorem comp_core {elt cond : Ev.E} {tg : Tg} {it : Ev.It} {has : Bool} {vs : List Nat} {σ : L2.St} {H : Hp} {Q : VK} {K : PySem.W.Frag}
    (q : tV K gl call XR W (.comp elt tg it cond has vs) σ H Q) :
    tLc (tI K gl call XR W it) (tG K (fun i => vs.contains i) tg) (tT K gl call XR (fun _ _ _ _ => False) cond) (tV K gl call XR (fun _ _ _ _ => False) elt) vs σ H Q := by
  obtain ⟨α, m, g, s⟩ := q
  refine ⟨α, m, g, sat_mono (sat_bind.mp s) (fun q ρ f J xs src α1 H1 e1 wk fr e2 m1 g1 => ?_) fun _ _ z => z⟩
  obtain ⟨ds, fz⟩ := q
  subst e1 e2
  intro Da hD
  have f := sat_bind.mp f
  simp only at f
  revert f
  generalize htn : (fun d ρ' => opt (stT (fun i => vs.contains i) tg d ρ') fun ρ2 => (evM gl call cond .t ρ2).bind fun k ρ3 =>
        if k.isT = true then (evM gl call elt .v ρ3).bind fun x ρ4 => Ev.R.ok (some x) (Ev.wipe ρ4 vs) else .ok none (Ev.wipe ρ3 vs)) = turn
  intro f
  obtain ⟨PF, hPF⟩ : ∃ PF : D → Env → Prop, PF = fun d ρ => ∀ (x : A) (α' : List A) (H' : Hp), x.er = d → erL α' = ρ → Mt σ α' → Stp K (wrL α) α H (x :: α') H' → Q x.val H' := ⟨_, rfl⟩
  obtain ⟨PE, hPE⟩ : ∃ PE : Ex → Env → Prop, PE = EX K XR W σ α H := ⟨_, rfl⟩
  have f : (compL turn (erL xs) (Ev.wipe (erL α1) vs)).sat (fun rest ρ5 => (opt (thaw fz ρ5) fun ρ6 => Ev.R.ok (D.lst rest) ρ6).sat PF PE) PE := by
    rw [hPF, hPE]; exact f
  obtain ⟨gw, sw⟩ := wipeA_good g1 vs
  have mw : Mt (L2.wipe σ vs) (wipeA α1 vs) := wipeA_mt m1 vs
  have st0 : Stp K (wrL α1) α1 H1 (.lst Da [] :: wipeA α1 vs) (upd H1 Da (.lst [])) := by
    refine (stp_same (W := wrL α1) gw sw).new (w := .lst Da []) (.new hD) ?_ (by simp [A.foot, footL]) ?_
    · rw [A.ok]; exact ⟨upd_same, Nat.zero_le _, trivial⟩
    · intro p mp
      have : p = (true, Da) := by simpa [A.foot, footL] using mp
      rw [this]; exact hD
  rw [← wipeA_er] at f
  -- at turn i: acc is in the new list
  obtain ⟨Iv, hIv⟩ : ∃ Iv : Nat → Hp → Prop, Iv = fun i Hk => ∃ αk acc, Mt (L2.wipe σ vs) αk ∧ acc.length ≤ i ∧ Stp K (wrL α1) α1 H1 (.lst Da acc :: αk) Hk ∧
      (compL turn (erL (xs.drop i)) (erL αk)).sat (fun rest ρ5 => (opt (thaw fz ρ5) fun ρ6 => Ev.R.ok (D.lst (erL acc ++ rest)) ρ6).sat PF PE) PE := ⟨_, rfl⟩
  have mkI : ∀ {i : Nat} {Hk : Hp} (αk acc : List A), Mt (L2.wipe σ vs) αk → acc.length ≤ i → Stp K (wrL α1) α1 H1 (.lst Da acc :: αk) Hk →
      (compL turn (erL (xs.drop i)) (erL αk)).sat (fun rest ρ5 => (opt (thaw fz ρ5) fun ρ6 => Ev.R.ok (D.lst (erL acc ++ rest)) ρ6).sat PF PE) PE → Iv i Hk := fun αk acc a b c d => by rw [hIv]; exact ⟨αk, acc, a, b, c, d⟩
  refine ⟨fun i n Hk => n = xs.length - i ∧ i ≤ xs.length ∧ Iv i Hk, ⟨xs.length, by simp, Nat.zero_le _, mkI (wipeA α1 vs) [] mw (Nat.le_refl _) st0 f⟩, ?_⟩
  rintro i n Hk ⟨rfl, hi, iv⟩
  rw [hIv] at iv
  obtain ⟨αk, acc, mk, ha, st, s⟩ := iv
  have won := wk.on g1 st
  have wki := wk.wk i Hk won.1
  by_cases hlt : i < xs.length
  · obtain ⟨hgo, hy⟩ := wki.1 xs[i] (by simp [hlt])
    refine .inr ⟨hgo, Iv (i + 1), fun H' h => ⟨xs.length - (i + 1), by omega, rfl, hlt, h⟩, fun x H' y => ?_⟩
    obtain ⟨rfl, rfl⟩ := hy x H' y
    rw [List.drop_eq_getElem_cons hlt] at s
    have imx : (xs[i]).er.imm = true := by
      have := wk.imm
      rw [immL_iff] at this
      exact this _ (by rw [erL_map]; exact List.mem_map_of_mem (List.getElem_mem hlt))
    have s := compL_step (d := (xs[i]).er) (ds := erL (xs.drop (i + 1))) s
    have eturn : turn (xs[i]).er (erL αk) = opt (stT (fun i => vs.contains i) tg (xs[i]).er (erL αk)) fun ρ2 => (evM gl call cond .t ρ2).bind fun k ρ3 =>
        if k.isT = true then (evM gl call elt .v ρ3).bind fun x ρ4 => Ev.R.ok (some x) (Ev.wipe ρ4 vs) else .ok none (Ev.wipe ρ3 vs) := by rw [← htn]
    rw [eturn] at s
    obtain ⟨ρ', e1, s⟩ := sat_opt.mp s
    have gk : Good K H' αk := st.good.tail
    have gi : Good K H' (xs[i] :: αk) := gk.imm (okL_iff.mp won.2 _ (List.getElem_mem hlt)) imx
    have hlen := stT_len _ _ _ _ e1
    refine ⟨xs[i], αk, ρ', rfl, mk, gi, e1, fun σ2 α2 ee m2 g2 sub kp => ?_⟩
    subst ee
    have ew : L2.wipe σ2 vs = L2.wipe σ vs := wipe_keep kp
    refine ⟨ew, ?_⟩
    -- the tests
    have st1 : Stp K (wrL α1) α1 H1 (.lst Da acc :: α2) H' := by
      refine st.trans (W' := []) (Stp.frame (Δ := [A.lst Da acc]) st.good (stp_same g2 fun p mp => ?_) (by simp)) (by simp)
      have := sub p mp
      rw [footL, imm_foot _ imx] at this
      exact this
    refine ⟨α2, m2, g2, sat_mono (sat_bind.mp s) (fun d ρ f α3 H3 e3 m3 st3 => ?_) fun _ _ z => z.elim⟩
    subst e3
    have st3' : Stp K (wrL α1) α1 H1 (.lst Da acc :: α3) H3 := st1.trans (Stp.frame (Δ := [A.lst Da acc]) st1.good st3 Wof_sub) fun a m => st1.wsub a (by
      have m := mem_wrL.mp (Wof_sub a m)
      exact mem_wrL.mpr (List.mem_append_right (A.lst Da acc).foot m))
    cases hd : d.isT with
    | false =>
      rw [hd, if_neg Bool.false_ne_true] at f
      rw [if_neg Bool.false_ne_true]
      obtain ⟨g4, s4⟩ := wipeA_good st3.good vs
      have m4 := wipeA_mt m3 vs
      rw [ew] at m4
      rw [← wipeA_er] at f
      exact mkI (wipeA α3 vs) acc m4 (by omega) (st3'.trans (W' := []) (Stp.frame (Δ := [A.lst Da acc]) st3'.good (stp_same g4 s4) (by simp)) (by simp)) f
    | true =>
      rw [hd, if_pos rfl] at f
      rw [if_pos rfl]
      refine ⟨α3, m3, st3.good, sat_mono (sat_bind.mp f) (fun d2 ρ f y α4 H4 e4 e5 m4 st4 => ?_) fun _ _ z => z.elim⟩
      subst e4 e5
      have st4' : Stp K (wrL α1) α1 H1 (.lst Da acc :: (y :: α4)) H4 := st3'.trans (Stp.frame (Δ := [A.lst Da acc]) st3'.good st4 Wof_sub) fun a m => st3'.wsub a (by
        have m := mem_wrL.mp (Wof_sub a m)
        exact mem_wrL.mpr (List.mem_append_right (A.lst Da acc).foot m))
      have oD := st4'.good.ok.1
      rw [A.ok] at oD
      have hacc : acc.length < line := by have := wk.len; omega
      refine ⟨_, oD.1, by rw [List.length_map, ← line_eq]; exact hacc, ?_⟩
      -- the new item
      obtain ⟨g5, s5⟩ := wipeA_good (st4.good.tail) vs
      have m5 := wipeA_mt m4 vs
      rw [ew] at m5
      rw [← wipeA_er] at f
      have gA : Good K H4 ([y] ++ (.lst Da acc :: α4)) := by
        refine st4'.good.perm ⟨st4'.good.ok.2.1, oD, st4'.good.ok.2.2⟩ ?_
        show ((A.lst Da acc).foot ++ (y.foot ++ footL α4)).Perm (y.foot ++ ((A.lst Da acc).foot ++ footL α4))
        rw [← List.append_assoc, ← List.append_assoc]
        exact List.Perm.append_right _ List.perm_append_comm
      have wko := (write_ok (Δ := []) (root := .lst Da acc) (ss := []) (i := 0) (ys' := acc ++ [y]) gA rfl rfl (by rw [List.length_append]; exact hacc) (okL_append.mpr ⟨trivial, okL_append.mpr ⟨oD.2.2, ⟨st4'.good.ok.2.1, trivial⟩⟩⟩) ⟨[], by
        rw [List.append_nil, List.nil_append, footL_append, footL_append]
        exact List.perm_append_comm⟩).1
      have em : acc.map A.val ++ [y.val] = (acc ++ [y]).map A.val := by rw [List.map_append]; rfl
      rw [em]
      have wko' : Stp K (wrL (.lst Da acc :: α4)) (y :: .lst Da acc :: α4) H4 (.lst Da (acc ++ [y]) :: α4) (upd H4 Da (.lst ((acc ++ [y]).map A.val))) := wko
      have st5 : Stp K (wrL α1) α1 H1 (y :: .lst Da acc :: α4) H4 := st4'.trans (W' := []) (stp_same gA fun p mp => by
        have mp : p ∈ y.foot ++ ((A.lst Da acc).foot ++ footL α4) := mp
        show p ∈ (A.lst Da acc).foot ++ (y.foot ++ footL α4)
        simp only [List.mem_append] at mp ⊢
        rcases mp with z | z | z
        · exact .inr (.inl z)
        · exact .inl z
        · exact .inr (.inr z)) (by simp)
      have st6 := st5.trans wko' fun a m => st5.wsub a (mem_wrL.mpr (List.mem_append_right y.foot (mem_wrL.mp m)))
      obtain ⟨g7, s7⟩ := wipeA_good (st6.good.tail) vs
      refine mkI (wipeA α4 vs) (acc ++ [y]) m5 (by rw [List.length_append]; simpa using ha) (st6.trans (W' := []) (Stp.frame (Δ := [A.lst Da (acc ++ [y])]) st6.good (stp_same g7 s7) (by simp)) (by simp)) ?_
      refine sat_mono f (fun rest ρ5 z => ?_) fun _ _ z => z
      have ea : erL (acc ++ [y]) ++ rest = erL acc ++ (y.er :: rest) := by rw [erL_append]; simp [erL]
      rw [ea]
      exact z
  · have e : i = xs.length := by omega
    subst e
    rw [List.drop_length] at s
    refine .inl ⟨wki.2 (Nat.le_refl _), ?_⟩
    have s : (opt (thaw fz (erL αk)) fun ρ6 => Ev.R.ok (D.lst (erL acc ++ [])) ρ6).sat PF PE := s
    obtain ⟨ρ6, e6, s⟩ := sat_opt.mp s
    obtain ⟨α', a1, a2, a3⟩ := thaw_ok (Δ := [A.lst Da acc]) fr g1 m1 st (unwipe_mt mk) (fun _ _ => rfl) e6
    rw [hPF] at s
    exact s (.lst Da acc) α' Hk (by rw [List.append_nil]; rfl) a1 a2 a3
/-- contexts of a comprehension's block -/
def BlkSE (X : Cx) (gl : Nat → Option D) (call : Nat → List D → R D) (XR : XRel) (scope : Scope) (P : Cx → Prop) : Prop := ∀ (s : Shared) (H : Hp) (C : Addr) (cl : List (Str × Addr)) (fp : List Addr), P (X.blk s H scope (compEnvC scope cl C X.env) fp)
theorem pts_of {X : Cx} {c : Ev.E} {ifs : List Expr} {has : Bool} (h : (has = false ∧ ifs = [] ∧ c = .bl true) ∨ (has = true ∧ ∃ ce, ifs = [ce] ∧ PT X ce (tT X.K gl call XR W c))) : PTs X ifs (tT X.K gl call XR W c) := by
  rcases h with ⟨_, rfl, rfl⟩ | ⟨_, ce, rfl, h⟩
  · refine ⟨fun pins s σ H Q I q => pts_nil.run pins s σ H Q I ?_⟩
    obtain ⟨α, m, g, s⟩ := q
    exact s α H rfl m (Stp.refl g)
  · exact pts_one h
theorem s_comp {elt cond : Ev.E} {tg : Tg} {it : Ev.It} {has : Bool} {vs : List Nat} {ee te ie : Expr} {ifs : List Expr} {scope : Scope} {own : List (Str × Nat)} (hc : X.calm = true) (hN : X.N.Nodup) (hvs : vs = own.map (·.2))
    (hi : PI X te ie (tI X.K gl call XR W it)) (bk : BlkOk X.N X.env.scope scope own) (hg : BlkSE X gl call XR scope fun Y => PG Y te (tG X.K (fun i => vs.contains i) tg))
    (ht : BlkSE X gl call XR scope fun Y => PTs Y ifs (tT X.K gl call XR (fun _ _ _ _ => False) cond)) (he : BlkSE X gl call XR scope fun Y => PE Y ee (tV X.K gl call XR (fun _ _ _ _ => False) elt)) (hs : notSet ie = true) :
    SE X gl call XR W (.comp elt tg it cond has vs) (.ListComp ee [⟨te, ie, ifs, 0⟩] scope pos) := by
  refine SE.temp (impE (pe_lc hc hN hi bk hg ht he (noSet hs)) fun σ H Q q => ?_) rfl (fun _ => rfl) (fun _ => rfl) fun _ _ => rfl
  rw [← hvs]
  exact comp_core q
theorem s_setLc {elt cond : Ev.E} {tg : Tg} {it : Ev.It} {has : Bool} {vs : List Nat} {ee te ie : Expr} {ifs : List Expr} {scope : Scope} {own : List (Str × Nat)} {i : Nat} {y : Str} {py spos : Pos} (hc : X.calm = true) (hN : X.N.Nodup) (hvs : vs = own.map (·.2))
    (hy : X.N[i]? = some y) (hyl : X.env.scope.names.lookup y = some .local) (hsw : swapsWith (.ListComp ee [⟨te, ie, ifs, 0⟩] scope pos) (some (.Name y py)) spos.line X.env = pure true)
    (hi : PI X te ie (tI X.K gl call XR W it)) (bk : BlkOk X.N X.env.scope scope own) (hg : BlkSE X gl call XR scope fun Y => PG Y te (tG X.K (fun i => vs.contains i) tg))
    (ht : BlkSE X gl call XR scope fun Y => PTs Y ifs (tT X.K gl call XR (fun _ _ _ _ => False) cond)) (he : BlkSE X gl call XR scope fun Y => PE Y ee (tV X.K gl call XR (fun _ _ _ _ => False) elt)) (hs : notSet ie = true) :
    PS X (.Assign [.Name y py] (.ListComp ee [⟨te, ie, ifs, 0⟩] scope pos) spos) (tS X.K gl call XR W fuel ok (.set (.nm i) (.comp elt tg it cond has vs))) := by
  refine impS (ps_setLc hc hN hy hyl hsw hi bk hg ht he (noSet hs)) fun D σ H q => ?_
  obtain ⟨α, m, g, s⟩ := q
  rw [← hvs]
  refine comp_core ⟨α, m, g, sat_mono (osat_o s) (fun d ρ f x α1 H1 e1 e2 m1 st => ?_) fun _ _ z => z⟩
  subst e1 e2
  obtain ⟨ρ', e3, f⟩ := osat_opt f
  simp only [stT] at e3
  split at e3
  · rename_i c
    cases e3
    rw [erL_length] at c
    have gs := st.good.store c.1
    refine f _ (α1.set i x) H1 (by rw [erL_set]) ⟨m1.store, ⟨by rw [List.length_set], fun j hj => ?_⟩, st.asF.trans (W' := []) (stp_same gs.1 gs.2) (by simp)⟩
    have : i ≠ j := fun e => by subst e; rw [c.2] at hj; cases hj
    exact List.getElem?_set_ne this
  · cases e3
end
end Ev
end

section
set_option Elab.async false
set_option linter.all false
set_option maxRecDepth 100000
/-! EvB15: calls by keywords; x[f(..)] = v. -/
namespace Ev
open PySem L2
section
variable {X : Cx} {gl : Nat → Option D} {call : Nat → List D → R D} {XR : XRel} {W : WX} {fuel : Nat} {ok : Nat → Bool} {pos : Pos}
theorem impK {ks : List Keyword} {t t' : TA} (h : PK X ks t) (f : ∀ σ H Q, t' σ H Q → t σ H Q) : PK X ks t' := ⟨fun pos pins s σ H Q I q => h.run pos pins s σ H Q I (f σ H Q q)⟩
theorem s_nilK : PK X [] (tAs X.K gl call XR W .nil) := impK pk_nil fun σ H Q q => by
  obtain ⟨α, m, g, s⟩ := q
  exact s [] [] α H rfl rfl m .nil (Stp.refl g)
theorem s_consK {e : Ev.E} {es : Ev.Es} {ex : Expr} {nm : Option Str} {kp : Pos} {kws : List Keyword} (hl : e.lent? = none) (he : SE X gl call XR W e ex) (hes : PK X kws (tAs X.K gl call XR W es)) : PK X (⟨nm, ex, kp⟩ :: kws) (tAs X.K gl call XR W (.cons e es)) := by
  refine impK (pk_cons he.v hes) fun σ H Q q => ?_
  obtain ⟨α, m, g, s⟩ := q
  have eqA : evAs gl call (.cons e es) (erL α) = (evM gl call e .v (erL α)).bind fun d ρ1 => (evAs gl call es ρ1).bind fun ds ρ2 => Ev.R.ok ((none, d) :: ds) ρ2 := by
    show (match e.lent? with | some i => _ | none => _) = _
    rw [hl]
  rw [eqA] at s
  refine oneV m g s (fun _ _ z => z) fun x α1 H1 m1 st1 s1 => ?_
  have st1' : Stp X.K (Wof e.quiet α) α H α1 H1 := Stp.right (Δ := [x]) st1
  refine ⟨α1, m1, st1'.good, sat_mono (sat_bind.mp s1) (fun as ρ f bs vs α2 H2 e1 e2 m2 vb st2 => ?_) fun _ _ z => EX.on st1' z⟩
  subst e1 e2
  refine f ((none, x) :: bs) (x.val :: vs) α2 H2 rfl rfl m2 (.val vb) ?_
  exact (st1.mono Wof_sub).trans (Stp.frame (Δ := [x]) st1.good st2 fun _ q => q) fun a q => st1'.wsub a q
theorem s_lentK {i : Nat} {es : Ev.Es} {x : Str} {p : Pos} {nm : Option Str} {kp : Pos} {kws : List Keyword} (hN : X.N[i]? = some x) (hv : Vis X.env.scope x) (hd : (x == ("__debug__" : Str)) = false) (hcd : (x == ("__classdict__" : Str)) = false) (hes : PK X kws (tAs X.K gl call XR W es)) :
    PK X (⟨nm, .Name x p, kp⟩ :: kws) (tAs X.K gl call XR W (.cons (.lend i) es)) := by
  refine impK (pk_cons (pe_var hN hv hd hcd) hes) fun σ H Q q => ?_
  obtain ⟨α, m, g, s⟩ := q
  obtain ⟨d, ed, s⟩ := sat_opt.mp s
  obtain ⟨y, y1, y2, y3⟩ := rd_at m ed
  refine ⟨_, y3, α, m, g, sat_mono (sat_bind.mp s) (fun as ρ f bs vs α2 H2 e1 e2 m2 vb st2 => ?_) fun _ _ z => z⟩
  subst e1 e2
  exact f ((some i, .no) :: bs) (y.val :: vs) α2 H2 rfl rfl m2 (.lent y3 vb) st2
/-! ### keywords in the parameters' order -/
def pick {α : Type} (l : List α) (js : List Nat) : List α := js.filterMap fun j => l[j]?
theorem reord_pick {α : Type} (is : List Nat) (l : List α) : reord 0 is l = pick l ((List.range l.length).map is.idxOf) := by
  unfold reord pick
  rw [List.filterMap_map]
  congr 1
  funext p
  simp
theorem pick_all {α : Type} (l : List α) : pick l (List.range l.length) = l := by
  unfold pick
  induction l with
  | nil => rfl
  | cons x l ih =>
    rw [List.length_cons, List.range_succ_eq_map, List.filterMap_cons]
    simp only [List.getElem?_cons_zero, List.filterMap_map]
    exact congrArg (x :: ·) ih
theorem pick_perm {α : Type} {l : List α} {js : List Nat} (h : js.Perm (List.range l.length)) : (pick l js).Perm l := by
  have := h.filterMap fun j => l[j]?
  have e := pick_all l
  unfold pick at e ⊢
  rwa [e] at this
theorem pick_map {α β : Type} (f : α → β) (l : List α) (js : List Nat) : pick (l.map f) js = (pick l js).map f := by
  unfold pick
  rw [List.map_filterMap]
  congr 1
  funext j
  rw [List.getElem?_map]
theorem VB.len {σ : L2.St} : ∀ {bs : List B} {vs : List V}, VB σ bs vs → bs.length = vs.length
  | _, _, .nil => rfl
  | _, _, .val h => by rw [List.length_cons, List.length_cons, h.len]
  | _, _, .lent _ h => by rw [List.length_cons, List.length_cons, h.len]
theorem VB.get {σ : L2.St} {bs : List B} {vs : List V} (h : VB σ bs vs) : ∀ (j : Nat), (bs[j]? = none ∧ vs[j]? = none) ∨ ∃ (b : B) (v : V), bs[j]? = some b ∧ vs[j]? = some v ∧ VB σ [b] [v] := by
  induction h with
  | nil => intro j; exact .inl ⟨by simp, by simp⟩
  | val h ih =>
    intro j
    cases j with
    | zero => exact .inr ⟨_, _, rfl, rfl, .val .nil⟩
    | succ j => simpa using ih j
  | lent e h ih =>
    intro j
    cases j with
    | zero => exact .inr ⟨_, _, rfl, rfl, .lent e .nil⟩
    | succ j => simpa using ih j
theorem VB.one {σ : L2.St} {b : B} {v : V} {bs : List B} {vs : List V} (h : VB σ [b] [v]) (r : VB σ bs vs) : VB σ (b :: bs) (v :: vs) := by
  cases h with
  | val _ => exact .val r
  | lent e _ => exact .lent e r
theorem VB.pick {σ : L2.St} {bs : List B} {vs : List V} (h : VB σ bs vs) : ∀ js, VB σ (pick bs js) (pick vs js)
  | [] => .nil
  | j :: js => by
    have ih := VB.pick h js
    unfold Ev.pick at ih ⊢
    rcases h.get j with ⟨a, b⟩ | ⟨b, v, e1, e2, r⟩
    · rw [List.filterMap_cons, List.filterMap_cons, a, b]; exact ih
    · rw [List.filterMap_cons, List.filterMap_cons, e1, e2]; exact r.one ih
theorem ownB_perm {bs bs' : List B} (h : bs.Perm bs') : (ownB bs).Perm (ownB bs') := by
  have e : ∀ bs, ownB bs = bs.filterMap fun b => match b with | (none, x) => some x | (some _, _) => none := by
    intro bs
    induction bs with
    | nil => rfl
    | cons b bs ih =>
      obtain ⟨o, x⟩ := b
      cases o with
      | none => rw [ownB, ih]; rfl
      | some i => rw [ownB, ih]; rfl
  rw [e, e]
  exact h.filterMap _
theorem footL_perm {xs ys : List A} (h : xs.Perm ys) : (footL xs).Perm (footL ys) := by
  have e : ∀ xs : List A, footL xs = xs.flatMap A.foot := by
    intro xs
    induction xs with
    | nil => rfl
    | cons x xs ih => rw [footL, ih]; rfl
  rw [e, e]
  exact h.flatMap_right _
theorem okL_perm {K : PySem.W.Frag} {H : Hp} {xs ys : List A} (h : xs.Perm ys) (o : okL K H xs) : okL K H ys := okL_iff.mpr fun y m => okL_iff.mp o y (h.mem_iff.mpr m)
/-- a def called by keywords alone -/
structure FnK (X : Cx) (XR : XRel) (call : Nat → List D → R D) (f : Nat) (x : Str) (ks : List Str) (is : List Nat) : Prop where
  ex : ∃ (k : Nat) (a : Addr) (fd : FuncData) (ps : List Str), X.mg x = some (.ref a) ∧ PySem.W.keepIn X.K (.ref a) = true ∧ (∀ (s : Shared) (ws : List Value), X.K.In s.heap → ws.length = ks.length → BindsTo s fd ⟨[], ks.zip ws⟩ (ps.zip (reord 0 is ws))) ∧
    FnOk X.prog X.w X.K X.mg X.base (L2.CX X.prog X.w) k a fd ps (spC X.K XR call f) ∧ Room k X.A
theorem vals_pick {vs : List V} {us : List Value} (h : Vals vs us) : ∀ js, Vals (pick vs js) (pick us js)
  | [] => .nil
  | j :: js => by
    have ih := vals_pick h js
    unfold pick at ih ⊢
    rw [List.filterMap_cons, List.filterMap_cons]
    cases e : vs[j]? with
    | none =>
      have : us[j]? = none := by
        rw [List.getElem?_eq_none_iff] at e ⊢
        rw [← h.length]; exact e
      rw [this]
      exact ih
    | some v =>
      obtain ⟨u, hu, r⟩ := h.get e
      rw [hu]
      exact .cons r ih
theorem pe_callK0 {CX : CXT} {k : Nat} {f : Addr} {fd : FuncData} {ps ks : List Str} {is : List Nat} {sp : Sp} {E : L2.St → XK} {x : Str} {p pos : Pos} {kws : List Keyword} {tk : TA} (F : FnOk X.prog X.w X.K X.mg X.base CX k f fd ps sp) (hr : Room k X.A) (hg : Gl X x) (hm : X.mg x = some (.ref f)) (hk : PySem.W.keepIn X.K (.ref f) = true)
    (hb : ∀ (s : Shared) (ws : List Value), X.K.In s.heap → ws.length = ks.length → BindsTo s fd ⟨[], ks.zip ws⟩ (ps.zip (reord 0 is ws))) (hx : ∀ σ, PassesAt CX X σ (E σ)) (hkw : PK X kws tk)
    (hks : ∀ pos, (backToKw pos (keywordEach kws X.env)).map (·.1) = ks.map some) (hdb : (x == ("__debug__" : Str)) = false) : PE X (.Call (.Name x p) [] kws pos) (fun σ H Q => tk σ H fun zs H1 => zs.length = ks.length ∧ sp (reord 0 is zs) H1 Q (E σ)) := by
  refine ⟨fun pins s σ H Q I h => ?_⟩
  refine wpAny_Call_Name_kw (ld_glob I hg hm ?_ hdb)
  have h1 : (backToKw pos (keywordEach kws X.env)).all (·.1.isSome) = true := by
    have := congrArg (fun l => l.all Option.isSome) (hks pos)
    simp only [List.all_map] at this
    rw [show ((backToKw pos (keywordEach kws X.env)).all fun x => x.1.isSome) = ((backToKw pos (keywordEach kws X.env)).all (Option.isSome ∘ fun x => x.1)) from rfl, this]
    simp
  have h2 : (backToKw pos (keywordEach kws X.env)).filterMap (·.1) = ks := by
    have := congrArg (fun l => l.filterMap id) (hks pos)
    simp only [List.filterMap_map] at this
    rw [show ((backToKw pos (keywordEach kws X.env)).filterMap fun x => x.1) = ((backToKw pos (keywordEach kws X.env)).filterMap (id ∘ fun x => x.1)) from rfl, this]
    simp
  have h3 : (backToKw pos (keywordEach kws X.env)).any (·.1.isNone) = false := by
    rw [List.any_eq_false]
    intro x hx
    have := List.all_eq_true.mp h1 x hx
    cases hx1 : x.1 with
    | none => rw [hx1] at this; cases this
    | some y => simp
  refine PySem.W.callWith_KW0 (h₀ := X.base) I.ok.mod.kin hk h1 (thn (hkw.run pos pins s σ H _ I h) fun ws s2 ⟨zs, H2, I2, rz, el, q2⟩ => ⟨I2.kIn, ?_⟩) (by show (false || _) = false; rw [Bool.false_or]; exact h3)
  rw [h2]
  have r2 : Vals (reord 0 is zs) (reord 0 is ws) := by
    rw [reord_pick, reord_pick, ← rz.length]
    exact vals_pick rz _
  refine wpAny_call (codeAny_mono (F.run X.A X.stack s2 H2 ⟨[], ks.zip ws⟩ (reord 0 is ws) (reord 0 is zs) Q (E σ) hr I2.env0 (hb s2 ws I2.kIn (by rw [← rz.length]; exact el)) r2 q2) fun r s' hq => ?_)
  cases r with
  | error e => exact hx σ pins H2 s2 e s' I2 hq
  | ok fl =>
    cases fl with
    | ret u => exact I2.after hq
    | next => exact False.elim hq
    | brk => exact False.elim hq
    | cont => exact False.elim hq
def Es.len : Ev.Es → Nat
  | .nil => 0
  | .cons _ es => es.len + 1
theorem evAs_len : ∀ (es : Ev.Es) (ρ ρ' : Env) (as : List (Option Nat × D)), evAs gl call es ρ = .ok as ρ' → as.length = es.len
  | .nil, ρ, ρ', as, h => by cases h; rfl
  | .cons e es, ρ, ρ', as, h => by
    unfold evAs at h
    split at h
    · rename_i i _
      cases h1 : rd ρ i with
      | none => rw [h1] at h; cases h
      | some d =>
        rw [h1] at h
        cases h2 : evAs gl call es ρ with
        | ok ds ρ2 =>
          simp only [opt, h2, R.bind] at h
          cases h
          rw [List.length_cons, evAs_len es _ _ _ h2, Es.len]
        | rz x ρ2 => simp only [opt, h2, R.bind] at h; cases h
        | st => simp only [opt, h2, R.bind] at h; cases h
    · cases h1 : evM gl call e .v ρ with
      | ok d ρ1 =>
        simp only [h1, R.bind] at h
        cases h2 : evAs gl call es ρ1 with
        | ok ds ρ2 =>
          simp only [h2] at h
          cases h
          rw [List.length_cons, evAs_len es _ _ _ h2, Es.len]
        | rz x ρ2 => simp only [h2] at h; cases h
        | st => simp only [h2] at h; cases h
      | rz x ρ1 => simp only [h1, R.bind] at h; cases h
      | st => simp only [h1, R.bind] at h; cases h
theorem sat_len {es : Ev.Es} {ρ : Env} {P : List (Option Nat × D) → Env → Prop} {E : Ex → Env → Prop} (h : (evAs gl call es ρ).sat P E) : (evAs gl call es ρ).sat (fun as ρ => as.length = es.len ∧ P as ρ) E := by
  cases e : evAs gl call es ρ with
  | ok as ρ' => rw [e] at h; exact ⟨evAs_len es ρ ρ' as e, h⟩
  | rz x ρ' => rw [e] at h; exact h
  | st => rw [e] at h; exact h
theorem s_callk {f : Nat} {is : List Nat} {es : Ev.Es} {kws : List Keyword} {ks : List Str} {x : Str} {p : Pos} (tk : Takes X W) (F : FnK X XR call f x ks is) (h : PK X kws (tAs X.K gl call XR W es)) (hks : kws.map (·.arg) = ks.map some) (hlen : es.len = ks.length) (hpm : ((List.range ks.length).map is.idxOf).isPerm (List.range ks.length) = true) (hg : Gl X x) (hd : (x == ("__debug__" : Str)) = false) :
    SE X gl call XR W (.callk f 0 is es) (.Call (.Name x p) [] kws pos) := by
  obtain ⟨k, a, fd, ps, hm, hk, hb, FO, hr⟩ := F.ex
  have hks' : ∀ pos, (backToKw pos (keywordEach kws X.env)).map (·.1) = ks.map some := by
    intro pos
    rw [← hks]
    clear h hks
    induction kws with
    | nil => rfl
    | cons kw kws ih => obtain ⟨nm, e, kp⟩ := kw; exact congrArg (List.cons nm) ih
  refine SE.temp (impE (pe_callK0 FO hr hg hm hk hb (passAt tk) h hks' hd) fun σ H Q q => ?_) rfl (fun _ => rfl) (fun _ => rfl) fun _ _ => rfl
  obtain ⟨α, m, g, s⟩ := q
  refine ⟨α, m, g, sat_mono (sat_len (sat_bind.mp s)) (fun as ρ ff bs vs α1 H1 e1 e2 m1 vb st1 => ?_) fun _ _ z => z⟩
  obtain ⟨hl0, f⟩ := ff
  subst e1 e2
  have hl : vs.length = ks.length := by rw [← vb.len, ← hlen, ← hl0, List.length_map]
  refine ⟨hl, ?_⟩
  have hp : ((List.range bs.length).map is.idxOf).Perm (List.range bs.length) := by
    rw [vb.len, hl]
    exact List.isPerm_iff.mp hpm
  have hpb := pick_perm (l := bs) hp
  have er : reord 0 is (bs.map erB) = (pick bs ((List.range bs.length).map is.idxOf)).map erB := by
    rw [reord_pick, List.length_map, pick_map]
  have ev : reord 0 is vs = pick vs ((List.range bs.length).map is.idxOf) := by rw [reord_pick, vb.len]
  rw [er] at f
  rw [ev]
  have po := ownB_perm hpb
  have st2 : Stp X.K (wrL α) α H (ownB (pick bs ((List.range bs.length).map is.idxOf)) ++ α1) H1 := by
    refine st1.sub (okL_append.mpr ⟨okL_perm po.symm (okL_append.mp st1.good.ok).1, (okL_append.mp st1.good.ok).2⟩) ⟨[], ?_⟩
    rw [List.append_nil, footL_append, footL_append]
    exact List.Perm.append_right _ (footL_perm po).symm
  exact call_core m1 (vb.pick _) st2 f
/-- x[i] = value, the index may call -/
theorem s_putrS {e i : Ev.E} {x : Nat} {ex ei : Expr} {nm : Str} {p2 p3 : Pos} (hN : X.N[x]? = some nm) (hv : Vis X.env.scope nm) (hd : (nm == ("__debug__" : Str)) = false) (hcd : (nm == ("__classdict__" : Str)) = false) (he : SE X gl call XR W e ex) (hi : SE X gl call XR W i ei) (hpl : plainE ei = true) (hn : noComp ex = true) :
    PS X (.Assign [.Subscript (.Name nm p3) ei p2] ex pos) (tS X.K gl call XR W fuel ok (.putr x i e)) := by
  refine impS (ps_asg he.v (pg_sub (pe_var hN hv hd hcd) hi.v set_list (fun v => by cases ei <;> first | rfl | (simp [plainE] at hpl))) (swS_false hn) rfl) fun D σ H q => ?_
  obtain ⟨α, m, g, s⟩ := q
  refine ⟨α, m, g, sat_mono (osat_o s) (fun d ρ f x0 α1 H1 e1 e2 m1 st => ?_) fun _ _ z => z⟩
  subst e1 e2
  have st1 : Stp X.K (wrL α) α H α1 H1 := Stp.right (Δ := [x0]) st.asF
  -- the container
  obtain ⟨d0, e0, f1⟩ := osat_opt f
  obtain ⟨r, r1, rfl, r3⟩ := rd_er e0
  have v1 := (m1.at_ _ _ r1).resolve_left r3
  refine ⟨r.val, v1, α1, m1, st.good.tail, sat_mono (osat_o' ⟨m1, .refl, st1⟩ f1) (fun k ρ f2 xk α2 H2 e1 e2 m2 st2 => ?_) fun _ _ z => z⟩
  subst e1 e2
  obtain ⟨ik, f3⟩ := osat_if f2
  obtain ⟨d, e3, f4⟩ := osat_opt f3
  obtain ⟨d', e4, f5⟩ := osat_opt f4
  obtain ⟨r2, r21, rfl, r23⟩ := rd_er e3
  have v2 := (m2.at_ _ _ r21).resolve_left r23
  have st2' : Stp X.K (wrL α1) α1 H1 α2 H2 := Stp.right (Δ := [xk]) st2.asF
  have st3 : Stp X.K (wrL α1) (x0 :: α1) H1 ([x0] ++ α2) H2 := Stp.frame (Δ := [x0]) st.good st2' fun _ q => q
  simp only [Ev.D.putAt, List.getLast?_singleton, List.dropLast_singleton, Ev.D.upd] at e4
  split at e4
  · rename_i ds j0 e5 e6
    obtain ⟨a, ys, rfl, rfl⟩ := er_lst' e5
    obtain ⟨j, ej, rfl⟩ := Option.map_eq_some_iff.mp e4
    rw [erL_length] at ej
    have hj : j < ys.length := by
      unfold Ev.ixN at ej
      split at ej
      · split at ej <;> simp at ej; omega
      · split at ej <;> simp at ej; omega
    have oy := okL_iff.mp (okL_append.mp st3.good.ok).2 _ (List.mem_of_getElem? r21)
    rw [A.ok] at oy
    obtain ⟨l, p0, p1⟩ := footL_set (α := ys) (i := j) (x := ys[j]) (by simp [hj])
    have wk := write_ok (Δ := []) (ys' := ys.set j x0) (ss := []) st3.good r21 rfl (by rw [List.length_set]; exact oy.2.1) (by rw [List.nil_append]; exact okL_set oy.2.2 st3.good.ok.1) ⟨(ys[j]).foot, by
      show (x0.foot ++ footL ys).Perm (footL (ys.set j x0) ++ (ys[j]).foot)
      refine (List.Perm.append_left _ p0).trans ?_
      refine List.Perm.trans ?_ (List.Perm.append_right _ (p1 x0)).symm
      rw [List.append_assoc]
      exact List.Perm.append_left _ List.perm_append_comm⟩
    have hv : r.val = .ref a := by
      rw [v1] at v2
      simpa [A.val] using v2
    rw [hv, er_int e6]
    refine ⟨a, _, j0, j, rfl, rfl, oy.1, by rw [List.length_map, ← ixN_eq]; exact ej, ?_⟩
    have em : (ys.map A.val).set j x0.val = (ys.set j x0).map A.val := by rw [List.map_set]
    rw [em]
    refine f5 σ (α2.set x (.lst a (ys.set j x0))) _ (by rw [erL_set]; simp only [A.er, erL_set]) ⟨m2.same r21 r23 wk.2, .refl, ?_⟩
    have s01 : Stp X.K (wrL α) α H ([x0] ++ α2) H2 := st.asF.trans st3 fun b hb => st1.wsub b hb
    exact s01.trans wk.1 fun b hb => s01.wsub b (mem_wrL.mpr (by rw [footL_append]; exact List.mem_append_right _ (mem_wrL.mp hb)))
  · cases e4
end
end Ev
end

section
set_option Elab.async false
set_option linter.all false
set_option maxRecDepth 100000
/-! EvB16: lists that nobody changes any more. -/
namespace Ev
open PySem L2
section
variable {K : PySem.W.Frag} {W : List Addr} {α α' : List A} {H H1 : Hp}
theorem Stp.frz {p : Addr} {ys : List A} (s : Stp K W α H (.lst p ys :: α') H1) (hw : ∀ a ∈ W, a ∈ wrL α) (hi : D.immL (erL ys) = true) (od : Obj) :
    Stp K (wrL α) α H (.kol p ys :: α') (upd H1 p (.frz od (.lst (ys.map A.val)))) := by
  have g := s.good
  have hp : H1 p = some (.lst (ys.map A.val)) ∧ ys.length ≤ line ∧ okL K H1 ys := by have := g.ok.1; rw [A.ok] at this; exact this
  have fe : footL ys = [] := imm_footL ys hi
  have nd := g.nd
  rw [footL, A.foot, fe] at nd
  simp only [List.cons_append, List.nil_append, List.map_cons, List.nodup_cons] at nd
  have wr : Wr [p] H1 := fun a m => by rw [List.mem_singleton.mp m]; exact ⟨_, hp.1⟩
  have fr : Fr [p] H1 (upd H1 p (.frz od (.lst (ys.map A.val)))) := Fr.put
  have t : Stp K [p] (.lst p ys :: α') H1 (.kol p ys :: α') (upd H1 p (.frz od (.lst (ys.map A.val)))) := by
    refine ⟨⟨⟨⟨.inr ⟨od, upd_same⟩, hp.2.1, ok_frL fr wr ys hp.2.2 (by rw [fe]; simp), hi⟩, ok_frL fr wr α' g.ok.2 fun q mq e => ?_⟩, ?_⟩, fr, fun q mq => .inl ?_⟩
    · exact nd.1 (List.mem_map.mpr ⟨q, mq, List.mem_singleton.mp e⟩)
    · rw [footL, A.foot, List.nil_append]; exact nd.2
    · rw [footL, A.foot, List.nil_append] at mq
      rw [footL]; exact List.mem_append_right _ mq
  refine (s.mono hw).trans t fun a m => ?_
  rw [List.mem_singleton.mp m]
  rcases s.ft (true, p) (by rw [footL, A.foot]; simp) with q | q
  · exact .inl (mem_wrL.mpr q)
  · exact .inr q
end
section
variable {X : Cx} {gl : Nat → Option D} {call : Nat → List D → R D} {XR : XRel} {W : WX}
theorem s_frz {e : E} {ex : Expr} (h : SE X gl call XR W e ex) : SE X gl call XR W (.frz e) ex := by
  refine SE.temp ⟨fun pins s σ H Q I q => ?_⟩ rfl (fun _ => rfl) (fun _ => rfl) fun te => by cases te
  obtain ⟨α, m, g, q⟩ := q
  refine thn (h.v.run pins s σ H (fun v H1 => ∃ p vs, v = V.ref p ∧ H1 p = some (.lst vs) ∧ ∀ od, Q v (upd H1 p (.frz od (.lst vs)))) I ⟨α, m, g, sat_mono (sat_bind.mp q) (fun d ρ f x α1 H1 e1 e2 m1 st => ?_) fun _ _ z => z⟩) fun u s1 ⟨v, H1, I1, r1, p, vs, e, hp, k⟩ => ?_
  · obtain ⟨ds, e3, f1⟩ := sat_opt.mp f
    obtain ⟨hi, f2⟩ := sat_ifOk.mp f1
    have := lst?_some e3
    subst this
    obtain ⟨p, ys, rfl, rfl⟩ := er_lst e1
    have hp := st.good.ok.1
    rw [A.ok] at hp
    refine ⟨p, ys.map A.val, rfl, hp.1, fun od => ?_⟩
    exact f2 (.kol p ys) α1 _ rfl e2 m1 (st.frz Wof_sub hi od)
  · obtain ⟨od, I2⟩ := I1.lock hp trivial
    exact ⟨v, _, I2, r1, k od⟩
end
end Ev
end

section
set_option Elab.async false
set_option linter.all false
set_option maxRecDepth 100000
/-! EvB17: sorted(set(xs)), xs a list of tuples of ints. -/
namespace Ev
open PySem L2 PyProof.Rows PySem.Spec
/-! ### the order -/
theorem lexLt_irr : ∀ xs : List Int, lexLt xs xs = false
  | [] => rfl
  | x :: xs => by simp [lexLt, lexLt_irr xs]
theorem lexLt_tri : ∀ xs ys : List Int, lexLt xs ys = true ∨ xs = ys ∨ lexLt ys xs = true
  | [], [] => .inr (.inl rfl)
  | [], _ :: _ => .inl rfl
  | _ :: _, [] => .inr (.inr rfl)
  | x :: xs, y :: ys => by
    rcases Int.lt_trichotomy x y with h | rfl | h
    · exact .inl (by simp [lexLt, h])
    · rcases lexLt_tri xs ys with h | rfl | h
      · exact .inl (by simp [lexLt, h])
      · exact .inr (.inl rfl)
      · exact .inr (.inr (by simp [lexLt, h]))
    · exact .inr (.inr (by simp [lexLt, h]))
theorem lexLt_trans : ∀ {xs ys zs : List Int}, lexLt xs ys = true → lexLt ys zs = true → lexLt xs zs = true
  | [], [], _, h, _ => by cases h
  | [], _ :: _, [], _, h => by cases h
  | [], _ :: _, _ :: _, _, _ => rfl
  | _ :: _, [], _, h, _ => by cases h
  | _ :: _, _ :: _, [], _, h => by cases h
  | x :: xs, y :: ys, z :: zs, h1, h2 => by
    simp only [lexLt, Bool.or_eq_true, decide_eq_true_eq, Bool.and_eq_true, beq_iff_eq] at h1 h2 ⊢
    rcases h1 with h1 | ⟨rfl, h1⟩ <;> rcases h2 with h2 | ⟨rfl, h2⟩
    · exact .inl (by omega)
    · exact .inl h1
    · exact .inl h2
    · exact .inr ⟨rfl, lexLt_trans h1 h2⟩
theorem lexLt_asym {xs ys : List Int} (h : lexLt xs ys = true) : lexLt ys xs = false := by
  cases e : lexLt ys xs with
  | false => rfl
  | true => have := lexLt_trans h e; rw [lexLt_irr] at this; cases this
theorem mem_insT {x z : List Int} : ∀ {ys : List (List Int)}, z ∈ insT x ys ↔ z = x ∨ z ∈ ys
  | [] => by simp [insT]
  | y :: ys => by
    unfold insT
    split
    · rename_i e; subst e; simp
    · split
      · simp
      · simp [mem_insT (ys := ys)]
        constructor
        · rintro (h | h | h) <;> simp [h]
        · rintro (h | h | h) <;> simp [h]
theorem mem_sortT {z : List Int} : ∀ {ts : List (List Int)}, z ∈ sortT ts ↔ z ∈ ts
  | [] => by simp [sortT]
  | t :: ts => by
    show z ∈ insT t (sortT ts) ↔ _
    rw [mem_insT, mem_sortT]; simp
theorem ins_sorted {x : List Int} : ∀ {ys : List (List Int)}, ys.Pairwise (fun a b => lexLt a b = true) → (insT x ys).Pairwise (fun a b => lexLt a b = true)
  | [], _ => by simp [insT]
  | y :: ys, h => by
    unfold insT
    have h' := List.pairwise_cons.mp h
    split
    · exact h
    · rename_i ne
      split
      · rename_i lt
        refine List.pairwise_cons.mpr ⟨fun z m => ?_, h⟩
        rcases List.mem_cons.mp m with rfl | m
        · exact lt
        · exact lexLt_trans lt (h'.1 z m)
      · rename_i nlt
        refine List.pairwise_cons.mpr ⟨fun z m => ?_, ins_sorted h'.2⟩
        rcases mem_insT.mp m with rfl | m
        · rcases lexLt_tri z y with q | q | q
          · exact absurd q nlt
          · exact absurd q ne
          · exact q
        · exact h'.1 z m
theorem sortT_sorted : ∀ ts : List (List Int), (sortT ts).Pairwise (fun a b => lexLt a b = true)
  | [] => .nil
  | t :: ts => ins_sorted (sortT_sorted ts)
theorem sorted_ext : ∀ {xs ys : List (List Int)}, xs.Pairwise (fun a b => lexLt a b = true) → ys.Pairwise (fun a b => lexLt a b = true) → (∀ z, z ∈ xs ↔ z ∈ ys) → xs = ys
  | [], [], _, _, _ => rfl
  | [], y :: ys, _, _, h => absurd ((h y).mpr List.mem_cons_self) (by simp)
  | x :: xs, [], _, _, h => absurd ((h x).mp List.mem_cons_self) (by simp)
  | x :: xs, y :: ys, h1, h2, h => by
    have a1 := List.pairwise_cons.mp h1
    have a2 := List.pairwise_cons.mp h2
    have e : x = y := by
      rcases List.mem_cons.mp ((h x).mp List.mem_cons_self) with e | m
      · exact e
      · rcases List.mem_cons.mp ((h y).mpr List.mem_cons_self) with e | m'
        · exact e.symm
        · have := lexLt_trans (a2.1 x m) (a1.1 y m')
          rw [lexLt_irr] at this; cases this
    subst e
    congr 1
    refine sorted_ext a1.2 a2.2 fun z => ⟨fun m => ?_, fun m => ?_⟩
    · rcases List.mem_cons.mp ((h z).mp (List.mem_cons_of_mem _ m)) with e | m'
      · subst e; have := a1.1 z m; rw [lexLt_irr] at this; cases this
      · exact m'
    · rcases List.mem_cons.mp ((h z).mpr (List.mem_cons_of_mem _ m)) with e | m'
      · subst e; have := a2.1 z m; rw [lexLt_irr] at this; cases this
      · exact m'
/-! ### the kit's order of data -/
def encT (q : Addr × List Int) : PyData := .tuple (q.2.map .int)
theorem row_lex : ∀ xs ys : List Int, PyProof.Rows.lexLt itemOrd (PySem.W.keyToksAll (xs.map .int)) (PySem.W.keyToksAll (ys.map .int)) = Ev.lexLt xs ys
  | [], [] => lex_irrefl _
  | [], y :: ys => by
    simp only [List.map_nil, List.map_cons, PySem.W.keyToksAll]
    rw [lex_cons]
    rfl
  | x :: xs, [] => by
    simp only [List.map_nil, List.map_cons, PySem.W.keyToksAll]
    rw [lex_cons]
    rfl
  | x :: xs, y :: ys => by
    have ih := row_lex xs ys
    simp only [List.map_cons, PySem.W.keyToksAll, PySem.W.keyToks, List.cons_append, List.nil_append]
    rw [lex_self, lex_cons, ih]
    show (decide (x < y) || (!decide (y < x) && Ev.lexLt xs ys)) = (decide (x < y) || (x == y && Ev.lexLt xs ys))
    rcases Int.lt_trichotomy x y with h | rfl | h
    · simp [h]
    · simp
    · have h1 : ¬ x < y := by omega
      have h2 : ¬ x = y := by omega
      simp [h, h1, h2]
theorem le_lex (p q : Addr × List Int) : PySem.W.dataLe false encT p q = !Ev.lexLt q.2 p.2 := by
  show (!PySem.W.dataLt (encT q) (encT p)) = _
  unfold encT
  rw [PySem.W.dataLt_tuple, row_lex]
/-! ### sorted of such a set -/
section
variable {P : Program} {w : World} {Ar : Around} {E : Value → Shared → Prop} {s : Shared}
theorem intsV : ∀ {its : List Value} {k : List Int}, ItemsAre (intKind P w) k its → ∀ h : Heap, PySem.ReadsAll h its (k.map .int) [] := by
  intro its k x
  induction x with
  | nil => intro h; exact .nil
  | cons h1 _ ih =>
    intro h
    obtain ⟨t, rfl⟩ := Value.isInt_shape h1
    exact .cons (.int _ _) (ih h)
theorem reads_isT {h : Heap} {k : List Int} {b : Addr} (x : IsT P w h k b) : PySem.Reads h (.ref b) (.tuple (k.map .int)) [] := by
  obtain ⟨o, items, n, ho, hc, hd, hi⟩ := x
  exact .tuple ho hc hd (intsV hi h)
theorem each_refs {h : Heap} : ∀ {L1 : List (Addr × List Int)}, PySem.W.EachIs (fun v (q : Addr × List Int) => v = Value.ref q.1) (L1.map fun q => Value.ref q.1) L1
  | [] => .nil
  | _ :: _ => .cons rfl (each_refs (h := h))
theorem each_out : ∀ {vs : List Value} {L1 : List (Addr × List Int)}, PySem.W.EachIs (fun v (q : Addr × List Int) => v = Value.ref q.1) vs L1 → vs = L1.map fun q => Value.ref q.1
  | _, _, .nil => rfl
  | _, _, .cons e r => by rw [List.map_cons, e, each_out r]
theorem each_of {R : Value → (Addr × List Int) → Prop} : ∀ {L1 : List (Addr × List Int)}, (∀ q ∈ L1, R (.ref q.1) q) → PySem.W.EachIs R (L1.map fun q => Value.ref q.1) L1
  | [], _ => .nil
  | q :: _, h => .cons (h q List.mem_cons_self) (each_of fun r m => h r (List.mem_cons_of_mem _ m))
theorem depthT (q : Addr × List Int) : (encT q).depth ≤ 1 := by
  unfold encT
  rw [PySem.PyData.depth, PySem.W.depth_ints]
  exact Nat.le_refl _
theorem sorted_setD {a : Addr} {L : List (Addr × List Int)} {es : Array (Int × Value)} {ep : Nat} {t : SetTable} {Q : Value → Shared → Prop} (R : SetTR P w s.heap a L es ep t) (hh : Ar.handled = none)
    (hne : ∀ p ∈ L, p.2 ≠ []) (hu : Ar.units + 64 < cLine)
    (hQ : ∀ s' p (out : Array Value) (c : Nat) (L' : List (Addr × List Int)), (∀ b o, s.heap.get? b = some o → s'.heap.get? b = some o) → s'.gens = s.gens → s'.os = s.os → s.heap.objs.size ≤ p →
      s'.heap.get? p = some (seqObj "list" out c) → out.toList = L'.map (fun q => Value.ref q.1) → L'.Perm L → L'.Pairwise (fun q r => Ev.lexLt r.2 q.2 = false) → Q (.ref p) s') :
    wpAny (model P w) Ar (call (.builtin "sorted") [.ref a]) Q E s := by
  obtain ⟨o, ho, hex, hd⟩ := R.ob
  have hsz := R.size
  have hfew := R.few
  refine Calls.call_function_entry kind_sorted plain_sorted entry_sorted (args_sorted1 _) ?_
  unfold Builtin.«sorted»
  refine wpAny_bind (m := checkCount "sorted" 1 1 _) (wpAny_pure ?_)
  refine wpAny_bind (collect_set (A := Ar.in1) hh ⟨o, ho, hex.1, hd⟩ R.fits (by unfold scanBound; omega) R.tab.ris R.led fun s1 vs k1 hz g1 o1 pm => ?_)
  have hes : es.toList.map (·.2) = L.map fun q => Value.ref q.1 := by rw [R.rows]; unfold rowsOf; rw [List.map_map] <;> rfl
  rw [hes] at pm
  -- the values are the places of the rows, in some order
  have ord : ∀ vs : List Value, (∀ v ∈ vs, ∃ q ∈ L, v = Value.ref q.1) → ∃ L1 : List (Addr × List Int), vs = L1.map (fun q => Value.ref q.1) ∧ ∀ q ∈ L1, q ∈ L := by
    intro vs
    induction vs with
    | nil => exact fun _ => ⟨[], rfl, fun q hq => nomatch hq⟩
    | cons v vs ih =>
      intro hv
      obtain ⟨q, hq, rfl⟩ := hv v List.mem_cons_self
      obtain ⟨L1, rfl, hs⟩ := ih fun u m => hv u (List.mem_cons_of_mem _ m)
      exact ⟨q :: L1, rfl, fun r m => (List.mem_cons.mp m).elim (fun z => z ▸ hq) (hs r)⟩
  have one : ∀ q ∈ L, ∀ r ∈ L, q.1 = r.1 → q = r := fun q hq r hr e => by
    have a1 := R.tup q hq
    rw [e] at a1
    exact Prod.ext e (a1.inj (R.tup r hr))
  have perm_of : ∀ L1 : List (Addr × List Int), (∀ q ∈ L1, q ∈ L) → (L1.map (fun q => Value.ref q.1)).Perm (L.map fun q => Value.ref q.1) → L1.Perm L := fun L1 hs pm1 => by
    have nL : L.Nodup := nodup_of_map R.nd
    have nr : (L.map fun q => Value.ref q.1).Nodup := List.pairwise_map.mpr (List.Pairwise.imp_of_mem (fun {q r} hq hr hn e => hn (one q hq r hr (by injection e))) nL)
    have n1 : L1.Nodup := nodup_of_map (pm1.nodup_iff.mpr nr)
    refine (List.perm_ext_iff_of_nodup n1 nL).mpr fun q => ⟨hs q, fun hq => ?_⟩
    obtain ⟨r, hr, e⟩ := List.mem_map.mp (pm1.mem_iff.mpr (List.mem_map.mpr ⟨q, hq, rfl⟩))
    rw [← one r (hs r hr) q hq (by injection e)]
    exact hr
  obtain ⟨L1, rfl, hs1⟩ := ord vs fun v hv => by
    obtain ⟨q, hq, e⟩ := List.mem_map.mp (pm.mem_iff.mp hv)
    exact ⟨q, hq, e.symm⟩
  have p1 : L1.Perm L := perm_of L1 hs1 pm
  have hvl : L1.length < 64 := by rw [p1.length_eq]; exact hfew
  refine wpAny_bind (wpAny_newList ?_ (by rw [List.length_map, sizeLine_eq]; omega))
  have hoL : (s1.heap.push (seqObj "list" (L1.map fun q => Value.ref q.1).toArray 0)).get? s1.heap.objs.size = some (seqObj "list" (L1.map fun q => Value.ref q.1).toArray 0) := Heap.get?_push_size _ rfl
  have rd : ∀ q ∈ L, PySem.Reads (s1.heap.push (seqObj "list" (L1.map fun q => Value.ref q.1).toArray 0)) (.ref q.1) (encT q) [] := fun q hq => reads_isT (P := P) (w := w) (isT_keep (R.tup q hq) fun b u e => Heap.get?_push_of_some _ (k1 b u e))
  have alk : PySem.W.AllAlike (L1.map encT) := .of fun b b' => by
    show PySem.W.alike (.tuple (b.2.map .int)) (.tuple (b'.2.map .int)) = true
    simpa [PySem.W.alike] using PySem.W.alike_ints b.2 b'.2
  have srt : PySem.W.Sortable (L1.map encT) := .inl fun d hd => by
    obtain ⟨q, hq, rfl⟩ := List.mem_map.mp hd
    cases e : q.2 with
    | nil => exact absurd e (hne q (hs1 q hq))
    | cons x r => exact ⟨.int x, r.map .int, by unfold encT; rw [e]; rfl⟩
  refine wpAny_bind (wpAny_holding (PySem.W.list_sort_data (s := { s1 with heap := s1.heap.push (seqObj "list" (L1.map fun q => Value.ref q.1).toArray 0) }) (R := fun v q => v = Value.ref q.1) (enc := encT) (bs := L1) hoL (each_of fun q _ => rfl)
    (each_of fun q hq => ⟨[], rd q (hs1 q hq), by simp⟩) alk srt (by rw [sizeLine_eq]; omega) (fun q _ => by have := depthT q; show Ar.units + _ + _ + _ < _; omega) fun out ho' eo => ?_))
  obtain ⟨c, hc⟩ := sortedHeap_at (vs := L1.map fun q => Value.ref q.1) (out := out.toArray) hoL
  have eo := each_out eo
  refine wpAny_pure ⟨_, rfl, hQ _ s1.heap.objs.size out.toArray c (L1.mergeSort (PySem.W.dataLe false encT)) (fun b u e => ?_) g1 o1 hz hc (by simpa using eo) ((List.mergeSort_perm _ _).trans p1) ?_⟩
  · have q := k1 b u e
    have hlt := Heap.lt_size q
    show (sortedHeap (s1.heap.push (seqObj "list" (L1.map fun q => Value.ref q.1).toArray 0)) s1.heap.objs.size (L1.map fun q => Value.ref q.1) out.toArray).get? b = some u
    rw [sortedHeap_old (Nat.ne_of_lt hlt) (by rw [size_push']; exact Nat.lt_succ_of_lt hlt)]
    exact Heap.get?_push_of_some _ q
  · have le : ∀ p q : Addr × List Int, PySem.W.dataLe false encT p q = true ↔ Ev.lexLt q.2 p.2 = false := fun p q => by rw [le_lex]; simp
    refine (List.pairwise_mergeSort (fun x y z h1 h2 => ?_) (fun x y => ?_) L1).imp fun {x y} h => (le x y).mp h
    · rw [le] at h1 h2 ⊢
      rcases lexLt_tri z.2 x.2 with q | q | q
      · rcases lexLt_tri y.2 x.2 with q1 | q1 | q1
        · rw [q1] at h1; cases h1
        · rw [q1] at h2; rw [q] at h2; cases h2
        · have := lexLt_trans q q1; rw [h2] at this; cases this
      · rw [q]; exact lexLt_irr _
      · exact lexLt_asym q
    · rw [Bool.or_eq_true, le, le]
      rcases lexLt_tri x.2 y.2 with q | q | q
      · exact .inl (lexLt_asym q)
      · rw [q]; exact .inl (lexLt_irr _)
      · exact .inr (lexLt_asym q)
end
/-! ### the rule -/
def rSortedD (K : PySem.W.Frag) (P : Program) (w : World) : List V → Hp → VK → Prop := fun vs H Q => ∃ (a : Addr) (L : List (Addr × List Int)), vs = [V.ref a] ∧ H a = some (SetTO P w a L) ∧ (∀ p ∈ L, SqT K H p.1 (p.2.map V.int)) ∧ (∀ p ∈ L, p.2 ≠ []) ∧
  ∀ (L' : List (Addr × List Int)) (p : Addr), L'.Perm L → (L'.map (·.2)).Nodup → L'.length < 64 → L'.Pairwise (fun q r => lexLt r.2 q.2 = false) → H p = none → Q (.ref p) (upd H p (.lst (L'.map fun q => V.ref q.1)))
section
variable {X : Cx}
theorem cr_sortedD (hc : X.calm = true) (hu : X.A.units + 64 < cLine) : CallR X (.builtin "sorted") (rSortedD X.K X.prog X.w) := by
  intro pins s σ H vs us Q I r h
  obtain ⟨a, L, rfl, ha, hk, hne, q⟩ := h
  have R0 : SetT0 X.prog X.w s.heap a L := (I.hok a _ ha).1
  obtain ⟨es, ep, t, R⟩ := R0.full fun p hp => I.isT (hk p hp)
  rw [Vals.ref1 r]
  refine sorted_setD R (I.ok.hd hc) hne hu fun s' p out c L' k g o hp hg hout pm pw => ?_
  have few : L'.length < 64 := by rw [pm.length_eq]; exact R.few
  have hl : (L'.map fun q => V.ref q.1).length ≤ sizeLine := by rw [List.length_map, sizeLine_eq]; omega
  have hn : H p = none := I.hok.fresh hp
  have J : Inv X pins σ (upd H p (.lst (L'.map fun q => V.ref q.1))) { s with heap := s'.heap, gens := s'.gens, drawn := s'.drawn, toks := s'.toks } :=
    I.call (ch := []) (Un.laid k hp hn) (I.hok.laid k hp ⟨hl, out.toList, c, by rw [hout]; exact vals_of_refs L', hg⟩) (by rw [g]; exact I.bare) (fun _ z => nomatch z)
  have e : s' = { s with heap := s'.heap, gens := s'.gens, drawn := s'.drawn, toks := s'.toks } := by
    cases s'; cases s; cases o; rfl
  rw [e]
  exact ⟨.ref p, _, J, rfl, q L' p pm ((pm.map (·.2)).nodup_iff.mpr R.nd) few pw hn⟩
end
/-! ### of the evaluator's data -/
theorem intsA : ∀ {ys : List A} {t : List Int}, D.ints (erL ys) = some t → ys = t.map A.int
  | [], t, h => by simp [erL, D.ints] at h; subst h; rfl
  | y :: ys, t, h => by
    rw [erL] at h
    cases y <;> simp [A.er, D.ints] at h
    obtain ⟨r, h1, rfl⟩ := h
    rw [intsA h1]; rfl
theorem tups_er : ∀ {xs : List A} {ts : List (List Int)}, D.tups (erL xs) = some ts → ∃ ks : List (Addr × List Int), xs = ks.map (fun q => A.tup q.1 (q.2.map A.int)) ∧ ts = ks.map (·.2)
  | [], ts, h => by simp [erL, D.tups] at h; subst h; exact ⟨[], rfl, rfl⟩
  | x :: xs, ts, h => by
    rw [erL] at h
    cases x <;> simp only [A.er, D.tups] at h <;> try (cases h)
    rename_i a ys
    obtain ⟨t, h1, h2⟩ := Option.bind_eq_some_iff.mp h
    obtain ⟨r, h3, rfl⟩ := Option.map_eq_some_iff.mp h2
    obtain ⟨ks, rfl, rfl⟩ := tups_er h3
    have := intsA h1
    subst this
    exact ⟨(a, t) :: ks, rfl, rfl⟩
theorem srt_ok {K : PySem.W.Frag} {P : Program} {w : World} {H : Hp} {z : D} {Q : VK} {x : A} (h : srtRun x.er = some z) (hx : x.ok K H) (q : Out K H z Q) :
    rSetOfT K P w [x.val] H (fun v H2 => rSortedD K P w [v] H2 Q) := by
  obtain ⟨l, xs, hxs, hts⟩ : ∃ l xs, (x = .lst l xs ∨ x = .rol l xs ∨ x = .kol l xs) ∧ ((D.tups (erL xs)).bind fun ts => if sortOk ts = true then some (D.lst ((sortT ts).map fun t => .tup (t.map .int))) else none) = some z := by
    cases x <;> simp only [A.er, srtRun] at h <;> first | (cases h; done) | skip
    · exact ⟨_, _, .inl rfl, h⟩
    · exact ⟨_, _, .inr (.inl rfl), h⟩
    · exact ⟨_, _, .inr (.inr rfl), h⟩
  obtain ⟨hv, hS, _, ho⟩ := A.seqL hx hxs
  obtain ⟨ts, e1, e2⟩ := Option.bind_eq_some_iff.mp hts
  obtain ⟨ks, rfl, rfl⟩ := tups_er e1
  split at e2
  · rename_i hok
    cases e2
    unfold sortOk at hok
    rw [Bool.and_eq_true, decide_eq_true_eq, List.length_map, List.all_eq_true] at hok
    have each : ∀ p ∈ ks, SqT K H p.1 (p.2.map V.int) := fun p hp => by
      have := okL_iff.mp ho _ (List.mem_map.mpr ⟨p, hp, rfl⟩)
      rw [A.ok, List.map_map] at this
      exact this.1
    have small : ∀ p ∈ ks, p.2 ≠ [] ∧ p.2.length ≤ 1000 := fun p hp => by
      have := hok.2 p.2 (List.mem_map.mpr ⟨p, hp, rfl⟩)
      rw [Bool.and_eq_true, decide_eq_true_eq] at this
      exact ⟨by intro e; rw [e] at this; simp at this, this.2⟩
    refine ⟨l, ks, by rw [hv], by rw [List.map_map] at hS; exact hS, each, hok.1, fun a L hn h1 h2 => ?_⟩
    have fa : Fr [] H (upd H a (SetTO P w a L)) := .new hn
    have wr0 : Wr [] H := fun _ m => nomatch m
    refine ⟨a, L, rfl, upd_same, fun p hp => SqT.fr (each p (h1 p hp)) fa wr0, fun p hp => (small p (h1 p hp)).1, fun L' p pm nd few pw hp => ?_⟩
    have sub : ∀ r ∈ L', r ∈ ks := fun r hr => h1 r (pm.mem_iff.mp hr)
    have es : L'.map (·.2) = sortT (ks.map (·.2)) := by
      refine sorted_ext ?_ (sortT_sorted _) fun z => ?_
      · rw [List.pairwise_map]
        refine (List.Pairwise.and pw (List.pairwise_map.mp nd)).imp fun {u v} hh => ?_
        rcases lexLt_tri u.2 v.2 with c | c | c
        · exact c
        · exact absurd c hh.2
        · rw [hh.1] at c; cases c
      · rw [mem_sortT]
        constructor
        · intro m
          obtain ⟨r, hr, rfl⟩ := List.mem_map.mp m
          exact List.mem_map.mpr ⟨r, sub r hr, rfl⟩
        · intro m
          obtain ⟨r, hr, rfl⟩ := List.mem_map.mp m
          obtain ⟨u, hu, e⟩ := List.mem_map.mp (h2 r hr)
          exact List.mem_map.mpr ⟨u, pm.mem_iff.mpr hu, e⟩
    have er : erL (L'.map fun q => A.tup q.1 (q.2.map A.int)) = (sortT (ks.map (·.2))).map fun t => D.tup (t.map .int) := by
      rw [← es, erL_map, List.map_map, List.map_map]
      refine List.map_congr_left fun r _ => ?_
      show D.tup (erL (r.2.map A.int)) = D.tup (r.2.map .int)
      rw [erL_map, List.map_map]; rfl
    have ev : (L'.map fun q => A.tup q.1 (q.2.map A.int)).map A.val = L'.map fun q => V.ref q.1 := by rw [List.map_map]; rfl
    have fp : Fr [] H (upd (upd H a (SetTO P w a L)) p (.lst (L'.map fun q => V.ref q.1))) := fa.trans (.new hp) (fun _ m => nomatch m)
    have imT : D.immL (erL (L'.map fun q => A.tup q.1 (q.2.map A.int))) = true := by
      rw [er, immL_iff]
      intro d hd
      obtain ⟨t, _, rfl⟩ := List.mem_map.mp hd
      show D.immL (t.map .int) = true
      rw [immL_iff]
      intro d hd
      obtain ⟨i, _, rfl⟩ := List.mem_map.mp hd
      rfl
    have ft := imm_footL _ imT
    have hpn : H p = none := by
      cases e : H p with
      | none => rfl
      | some o => exact absurd hp (fa.2 p (by rw [e]; simp))
    refine q (.lst p (L'.map fun q => A.tup q.1 (q.2.map A.int))) _ (by rw [A.er, er]) fp ?_ (by simp [A.foot, ft]) (by simp [A.foot, ft, hpn])
    rw [A.ok]
    refine ⟨by rw [ev]; exact upd_same, by rw [List.length_map, line_eq, sizeLine_eq]; omega, okL_iff.mpr fun y my => ?_⟩
    obtain ⟨r, hr, rfl⟩ := List.mem_map.mp my
    rw [A.ok]
    refine ⟨by rw [List.map_map]; exact SqT.fr (each r (sub r hr)) fp wr0, by rw [List.length_map, line_eq, sizeLine_eq]; have := (small r (sub r hr)).2; omega, okL_iff.mpr fun y my => ?_⟩
    obtain ⟨i, _, rfl⟩ := List.mem_map.mp my
    trivial
  · cases e2
section
variable {X : Cx} {gl : Nat → Option D} {call : Nat → List D → R D} {XR : XRel} {W : WX}
theorem s_srt {e : Ev.E} {ex : Expr} {p p2 q pos : Pos} (hc : X.calm = true) (hu : X.A.units + 64 < cLine) (h : SE X gl call XR W e ex) (hp : plainE ex = true) (hg : Gl X "sorted") (hm : X.mg "sorted" = none) (hg2 : Gl X "set") (hm2 : X.mg "set" = none) :
    SE X gl call XR W (.srt e) (.Call (.Name "sorted" p) [.Call (.Name "set" p2) [ex] [] q] [] pos) := by
  have inner : PE X (.Call (.Name "set" p2) [ex] [] q) (tCB (rSetOfT X.K X.prog X.w) (tCons (tB X.K gl call XR W e) tNil)) := pe_callTy (cr_setOfT hc hu) hg2 hm2 (by decide +kernel) (pa_cons h.b pa_nil (starCons hp)) (by decide) (by decide) (starCons hp) rfl
  have outer : PE X (.Call (.Name "sorted" p) [.Call (.Name "set" p2) [ex] [] q] [] pos) (tCB (rSortedD X.K X.prog X.w) (tCons (tCB (rSetOfT X.K X.prog X.w) (tCons (tB X.K gl call XR W e) tNil)) tNil)) := pe_callB (cr_sortedD hc hu) hg hm (by decide +kernel) (pa_cons inner pa_nil) (by decide) (by decide)
  refine SE.temp (impE outer fun σ H Q s => ?_) rfl (fun _ => rfl) (fun _ => rfl) fun te => by cases te
  obtain ⟨α, m, g, s⟩ := s
  show tB X.K gl call XR W e σ H (fun x H1 => rSetOfT X.K X.prog X.w [x] H1 fun v H2 => rSortedD X.K X.prog X.w [v] H2 Q)
  refine oneB m g s (fun _ _ z => z) fun x α1 H1 ok1 m1 st1 s1 => ?_
  obtain ⟨z, ez, s2⟩ := sat_opt.mp s1
  exact srt_ok ez ok1 fun u H2 eu f2 oku nu fu => s2 u α1 H2 eu rfl m1 ((st1.right.new f2 oku nu fu).mono Wof_sub)
end
end Ev
end

section
set_option Elab.async false
set_option linter.all false
set_option maxRecDepth 100000
/-! EvC1: the compact code beside the program's form: a check by computing. -/
namespace Ev
open PySem L2
/-- what a block is checked in -/
structure Cc where
  N : List Str
  names : List (Str × NameKind)
  kind : ScopeKind
  /-- the names as the block itself says them -/
  raw : List (Str × NameKind)
  fns : List Str
  gls : List Str
  /-- names that the module has not -/
  tops : List Str
  /-- calls by keywords: the def, the keywords' names, the parameters' places -/
  kbs : List (Nat × List Str × List Nat)
def Cc.lk (c : Cc) (x : Str) : Option NameKind := c.names.lookup x
def NK.isLoc : Option NameKind → Bool
  | some .local => true
  | _ => false
def NK.isCell : Option NameKind → Bool
  | some .cell => true
  | _ => false
def NK.isFree : Option NameKind → Bool
  | some .free => true
  | _ => false
def NK.isGl : Option NameKind → Bool
  | some .globalImplicit => true
  | _ => false
def plainN (x : Str) : Bool := !(x == ("__debug__" : Str)) && !(x == ("__classdict__" : Str))
def Cc.at (c : Cc) (i : Nat) (x : Str) : Bool := match c.N[i]? with
  | some y => decide (y = x)
  | none => false
def Cc.vis (c : Cc) (i : Nat) (x : Str) : Bool := c.at i x && (NK.isLoc (c.lk x) || NK.isCell (c.lk x) || NK.isFree (c.lk x)) && plainN x
def Cc.loc (c : Cc) (i : Nat) (x : Str) : Bool := c.at i x && (NK.isLoc (c.lk x) || (NK.isCell (c.lk x) && NK.isCell (c.raw.lookup x)))
def Cc.gl (c : Cc) (x : Str) : Bool := NK.isGl (c.lk x) && plainN x
def Cc.blt (c : Cc) (x : Str) : Bool := c.gl x && (c.tops.any fun y => decide (y = x)) && !decide (x = "__name__")
/-- the names of a comprehension's block beside those around -/
def relN (names : List (Str × NameKind)) (c : Cc) : List (Str × NameKind) :=
  names.map fun (n, k) => if (k == .free && c.kind == .function && c.names.lookup n == some .cell) then (n, .cell) else (n, k)
def Cc.blk (c : Cc) (sc : Scope) : Cc := { c with names := relN sc.names c, kind := sc.kind, raw := sc.names }
def ownOf (c : Cc) (vs : List Nat) : List (Str × Nat) := vs.map fun i => (c.N.getD i Str.empty, i)
def Cc.blkOk (c : Cc) (sc : Scope) (own : List (Str × Nat)) : Bool :=
  (match sc.kind with | .function => true | _ => false) && (sc.names.all fun y => decide (sc.names.lookup y.1 = some y.2)) && (own.all fun p => decide (c.N[p.2]? = some p.1)) &&
    (sc.names.all fun y => match y.2 with
      | .free => (match c.names.lookup y.1 with | some .cell => true | some .free => true | _ => false)
      | .local => decide (y.1 ∈ own.map (·.1)) || decide (y.1 ∉ c.N)
      | .cell => decide (y.1 ∈ own.map (·.1)) || decide (y.1 ∉ c.N)
      | _ => true)
def Blt.known : Blt → Bool
  | .sset | .lset => false
  | _ => true
def Ty.known : Ty → Bool := fun _ => true
def E.isBool : E → Bool
  | .and _ _ => true
  | .or _ _ => true
  | _ => false
def E.isPart : E → Bool
  | .part => true
  | _ => false
def isEmp {α : Type} : List α → Bool
  | [] => true
  | _ => false
def chkTy (c : Cc) : List Ty → List Expr → Bool
  | [], exs => match exs with
    | [] => true
    | _ => false
  | t :: ts, exs => match exs with
    | .Name y _ :: exs => decide (y = Str.ofString t.nm) && c.blt y && chkTy c ts exs
    | _ => false
def Es.isNil : Es → Bool
  | .nil => true
  | _ => false
mutual
def chkE (c : Cc) : E → Expr → Bool
  | .var i, ex => match ex with
    | .Name x _ => c.vis i x
    | _ => false
  | .mov i, ex => match ex with
    | .Name x _ => c.vis i x
    | _ => false
  | .lend _, _ => false
  | .part, _ => false
  | .non, ex => match ex with
    | .Constant .none _ _ => true
    | _ => false
  | .bl b, ex => match ex with
    | .Constant (.bool k) _ _ => b == k
    | _ => false
  | .int i, ex => match ex with
    | .Constant (.int k) _ _ => decide (k = i)
    | _ => false
  | .str s, ex => match ex with
    | .Constant (.str k) _ _ => decide (k = s) && PySem.PyData.strOk s
    | _ => false
  | .glb g, ex => match ex with
    | .Name x _ => c.gl x && (match c.gls[g]? with | some y => decide (y = x) | none => false)
    | _ => false
  | .bin o a b, ex => match ex with
    | .BinOp ea op eb _ => decide (op = o.syn) && chkE c a ea && chkE c b eb
    | _ => false
  | .neg a, ex => match ex with
    | .UnaryOp .USub ea _ => chkE c a ea
    | _ => false
  | .cmp o a b, ex => match ex with
    | .Compare ea [op] [eb] _ => decide (op = o.syn) && chkE c a ea && chkE c b eb && !behindInMarks o.syn eb
    | _ => false
  | .chn o p a b d, ex => match ex with
    | .Compare ea [op, pp] [eb, ed] _ => decide (op = o.syn) && decide (pp = p.syn) && chkE c a ea && chkE c b eb && chkE c d ed && !lastMarks [o.syn, p.syn] [eb, ed]
    | _ => false
  | .not a, ex => match ex with
    | .UnaryOp .Not ea _ => a.testable && chkE c a ea
    | _ => false
  | .and a b, ex => match ex with
    | .BoolOp .And (ea :: eb :: rest) pos => a.testable && chkE c a ea && (match rest with
      | [] => b.testable && chkE c b eb
      | _ => b.isBool && chkE c b (.BoolOp .And (eb :: rest) pos))
    | _ => false
  | .or a b, ex => match ex with
    | .BoolOp .Or (ea :: eb :: rest) pos => a.testable && chkE c a ea && (match rest with
      | [] => b.testable && chkE c b eb
      | _ => b.isBool && chkE c b (.BoolOp .Or (eb :: rest) pos))
    | _ => false
  | .ite t a b, ex => match ex with
    | .IfExp et ea eb _ => t.testable && chkE c t et && chkE c a ea && chkE c b eb
    | _ => false
  | .tup es, ex => match ex with
    | .Tuple exs _ _ => chkEs c es exs
    | _ => false
  | .lst es, ex => match ex with
    | .List exs _ => chkEs c es exs
    | _ => false
  | .idx a i, ex => match ex with
    | .Subscript ea ei _ => chkE c a ea && chkE c i ei && plainE ei
    | _ => false
  | .slc a lo hi, ex => match ex with
    | .Subscript ea (.Slice el eh none _) _ => chkE c a ea && (match el with
      | none => lo.isPart
      | some el => !lo.isPart && chkE c lo el) && (match eh with
      | none => hi.isPart
      | some eh => !hi.isPart && chkE c hi eh)
    | _ => false
  | .call f es, ex => match ex with
    | .Call (.Name x _) exs [] _ => c.gl x && (match c.fns[f]? with | some y => decide (y = x) | none => false) && chkAs c es exs
    | _ => false
  | .callk f n is es, ex => match ex with
    | .Call (.Name x _) [] kws _ => c.gl x && (match c.fns[f]? with | some y => decide (y = x) | none => false) && decide (n = 0) && (c.kbs.any fun q => decide (q.1 = f) && decide (q.2.2 = is) && decide (kws.map (·.arg) = q.2.1.map some) && decide (es.len = q.2.1.length) && ((List.range q.2.1.length).map is.idxOf).isPerm (List.range q.2.1.length)) && chkKs c es kws
    | _ => false
  | .blt b es, ex => match ex with
    | .Call (.Name x _) (ex :: exs) [] _ => b.known && decide (x = Str.ofString b.nm) && c.blt x && chkEs c es (ex :: exs)
    | _ => false
  | .isi a t, ex => match ex with
    | .Call (.Name x _) [ea, .Name y _] [] _ => decide (x = "isinstance") && c.blt x && chkE c a ea && plainE ea && decide (y = Str.ofString t.nm) && c.blt y
    | _ => false
  | .isis a ts, ex => match ex with
    | .Call (.Name x _) [ea, .Tuple exs _ _] [] _ => decide (x = "isinstance") && c.blt x && chkE c a ea && plainE ea && !ts.isEmpty && decide (ts.length ≤ 100) && chkTy c ts exs
    | _ => false
  | .comp elt tg it cond has own, ex => match ex with
    | .ListComp ee [⟨te, ie, ifs, as⟩] sc _ => decide (as = 0) && chkI c it te ie && notSet ie && c.blkOk sc (ownOf c own) && chkG (c.blk sc) tg te && chkE (c.blk sc) elt ee &&
      (match ifs with
      | [] => !has && (match cond with | .bl true => true | _ => false)
      | [ce] => has && cond.testable && chkE (c.blk sc) cond ce
      | _ => false)
    | _ => false
  | .mth k p es, ex => match ex with
    | .Call (.Attribute ep nm p2) exs [] pos => k.known && decide (nm = k.nm) && chkP c p ep && (p2.endLine == pos.line) && chkM c p.isRoot es exs
    | _ => false
  | .frz e, ex => chkE c e ex
  | .srt e, ex => match ex with
    | .Call (.Name x _) [.Call (.Name y _) [ea] [] _] [] _ => decide (x = "sorted") && c.blt x && decide (y = "set") && c.blt y && chkE c e ea && plainE ea
    | _ => false
def chkEs (c : Cc) : Es → List Expr → Bool
  | .nil, exs => match exs with
    | [] => true
    | _ => false
  | .cons e es, exs => match exs with
    | ex :: exs => chkE c e ex && plainE ex && chkEs c es exs
    | _ => false
def chkM (c : Cc) (r : Bool) : Es → List Expr → Bool
  | .nil, exs => match exs with
    | [] => true
    | _ => false
  | .cons e es, exs => match exs with
    | [ee] => es.isNil && chkE c e ee && plainE ee && (r || e.quiet)
    | _ => false
def chkAs (c : Cc) : Es → List Expr → Bool
  | .nil, exs => match exs with
    | [] => true
    | _ => false
  | .cons e es, exs => match exs with
    | ex :: exs => (match e.lent? with
      | some i => (match ex with
        | .Name x _ => c.vis i x
        | _ => false)
      | none => chkE c e ex && plainE ex) && chkAs c es exs
    | _ => false
def chkKs (c : Cc) : Es → List Keyword → Bool
  | .nil, kws => match kws with
    | [] => true
    | _ => false
  | .cons e es, kws => match kws with
    | kw :: kws => (match e.lent? with
      | some i => (match kw.value with
        | .Name x _ => c.vis i x
        | _ => false)
      | none => chkE c e kw.value) && chkKs c es kws
    | _ => false
def chkI (c : Cc) : It → Expr → Expr → Bool
  | .rng1 a, _, ie => match ie with
    | .Call (.Name x _) [ea] [] _ => decide (x = "range") && c.blt x && chkE c a ea && plainE ea
    | _ => false
  | .rng2 a b, _, ie => match ie with
    | .Call (.Name x _) [ea, eb] [] _ => decide (x = "range") && c.blt x && chkE c a ea && plainE ea && chkE c b eb && plainE eb
    | _ => false
  | .froz i, _, ie => match ie with
    | .Name x _ => c.vis i x
    | _ => false
  | .seqv a, _, ie => chkE c a ie
  | .seq a, _, ie => chkE c a ie
  | .zip _ _, _, _ => false
  | .enum _, _, _ => false
def chkP (c : Cc) : P → Expr → Bool
  | .root i, ex => match ex with
    | .Name x _ => c.vis i x
    | _ => false
  | .at p e, ex => match ex with
    | .Subscript ep ei _ => chkP c p ep && chkE c e ei && e.quiet && plainE ei
    | _ => false
def chkG (c : Cc) : Tg → Expr → Bool
  | .nm i, ex => match ex with
    | .Name x _ => c.loc i x
    | _ => false
  | .tup ts, ex => match ex with
    | .Tuple es _ _ => chkGs c ts es && es.all plainE && es.length == ts.len
    | _ => false
def chkGs (c : Cc) : Tgs → List Expr → Bool
  | .nil, exs => match exs with
    | [] => true
    | _ => false
  | .cons t ts, exs => match exs with
    | ex :: exs => chkG c t ex && plainE ex && chkGs c ts exs
    | _ => false
end
/-- the stores of a, b = x, y go from the right: as the model asks -/
def Cc.swapped (c : Cc) (ts vs : List Expr) : Option (List Str) :=
  let line := (ts.head?.map (·.pos.line)).getD 0
  let names := ts.filterMap fun
    | .Name id pos => if c.lk id == some .local && pos.line == line then some id else none
    | _ => none
  if names.length != ts.length || names.eraseDups.length != names.length then none
  else if vs.all (foldedForSure 8) then none else some names
/-- name = [..] on one line -/
def Cc.lcSwap (c : Cc) (x : Str) (px : Pos) (sc : Scope) (pv : Pos) : Bool := NK.isLoc (c.lk x) && (px.line == pv.line) && !(sc.names.any fun (n, k) => n == x && (k == .local || k == .cell))
def noComp' : Expr → Bool := noComp
def isTupE : Expr → Bool
  | .Tuple .. => true
  | .List .. => true
  | _ => false
def isConst : Expr → Bool
  | .Tuple .. => true
  | _ => false
def starE : Expr → Bool
  | .Starred .. => true
  | _ => false
def nameOn (c : Cc) (line : Nat) : Expr → Option Str
  | .Name id pos => if c.lk id == some .local && pos.line == line then some id else none
  | _ => none
/-- the stores go as they stand -/
def swNone (c : Cc) (te ex : Expr) : Bool := match te, ex with
  | .Tuple ts _ _, .Tuple vs _ _ => !(ts.length == 2 || ts.length == 3) || vs.length != ts.length || vs.any starE ||
      (let names := ts.filterMap (nameOn c ((ts.head?.map (·.pos.line)).getD 0)); (names.length != ts.length || names.eraseDups.length != names.length)) || vs.all (foldedForSure 8)
  | .List _ _, .Tuple _ _ _ => false
  | _, _ => true
mutual
def chkS (c : Cc) : S → Stmt → Bool
  | .set tg e, st => match st with
    | .Assign [te] ex _ => chkE c e ex && chkG c tg te && plainE te && (match ex with
      | .ListComp _ _ sc pv => (match te with
        | .Name x px => if c.lcSwap x px sc pv then (match tg, e with | .nm _, .comp _ _ _ _ _ _ => true | _, _ => false) else true
        | _ => false)
      | _ => noComp ex && swNone c te ex)
    | _ => false
  | .par is es, st => match st with
    | .Assign [.Tuple [.Name x px, .Name y py] kt pt] (.Tuple [a, b] k2 p2) _ => chkEs c es [a, b] && (match is with
      | [i, j] => c.loc i x && c.loc j y && NK.isLoc (c.lk x) && NK.isLoc (c.lk y) && (px.line == py.line) && !decide (x = y) && !(foldedForSure 8 a && foldedForSure 8 b) && !(constantsAlone 8 a && constantsAlone 8 b) && (i != j)
      | _ => false)
    | .Assign [.Tuple [.Name x px, .Name y py, .Name z pz] kt pt] (.Tuple [a, b, d] k2 p2) _ => chkEs c es [a, b, d] && (match is with
      | [i, j, l] => c.loc i x && c.loc j y && c.loc l z && NK.isLoc (c.lk x) && NK.isLoc (c.lk y) && NK.isLoc (c.lk z) && (px.line == py.line) && (px.line == pz.line) && !decide (x = y) && !decide (x = z) && !decide (y = z) && !(foldedForSure 8 a && foldedForSure 8 b && foldedForSure 8 d) && !(constantsAlone 8 a && constantsAlone 8 b && constantsAlone 8 d) && (i != j) && (i != l) && (j != l)
      | _ => false)
    | _ => false
  | .put p e, st => match st with
    | .Assign [te] ex _ => (match p with | .at _ _ => true | _ => false) && chkE c e ex && chkP c p te && noComp ex
    | _ => false
  | .putr x i e, st => match st with
    | .Assign [.Subscript (.Name nm _) ei _] ex _ => c.vis x nm && chkE c e ex && chkE c i ei && plainE ei && noComp ex
    | _ => false
  | .aug i o e, st => match st with
    | .AugAssign (.Name x _) op ex _ => c.loc i x && chkE c e ex && (match o, op with
      | .add, .Add => true
      | .sub, .Sub => true
      | _, _ => false)
    | _ => false
  | .augp _ _ _, _ => false
  | .ex e, st => match st with
    | .Expr ex _ => chkE c e ex && noComp ex
    | _ => false
  | .ret e, st => match st with
    | .Return (some ex) _ => chkE c e ex
    | _ => false
  | .ret0, st => match st with
    | .Return none _ => true
    | _ => false
  | .ite t a b, st => match st with
    | .If te as bs _ => t.testable && chkE c t te && chkSs c a as && chkSs c b bs
    | _ => false
  | .loop tg it b, st => match st with
    | .For te ie bs [] _ => chkG c tg te && chkI c it te ie && notSet ie && chkSs c b bs
    | _ => false
  | .whl t b, st => match st with
    | .While te bs [] _ => t.testable && chkE c t te && chkSs c b bs
    | _ => false
  | .brk, st => match st with
    | .Break _ => true
    | _ => false
  | .cnt, st => match st with
    | .Continue _ => true
    | _ => false
  | .pass, st => match st with
    | .Pass _ => true
    | _ => false
def chkSs (c : Cc) : Ss → List Stmt → Bool
  | .nil, sts => match sts with
    | [] => true
    | _ => false
  | .cons s ss, sts => match sts with
    | st :: sts => chkS c s st && chkSs c ss sts
    | _ => false
end
end Ev
end

section
set_option Elab.async false
set_option linter.all false
set_option maxRecDepth 100000
/-! EvC2: the check's meaning. -/
namespace Ev
open PySem L2
structure Okc (c : Cc) (X : Cx) (gl : Nat → Option D) (call : Nat → List D → R D) (XR : XRel) (W : WX) : Prop where
  N : X.N = c.N
  nd : c.N.Nodup
  sc : X.env.scope.names = c.names
  kind : X.env.scope.kind = c.kind
  kf : c.kind = .function
  fnc : ∀ x, NK.isCell (c.raw.lookup x) = true → X.fn x = true
  calm : X.calm = true
  units : X.A.units + 64 < cLine
  tk : Takes X W
  ps : PassesOwn (model X.prog X.w) X.A X.env X.xe
  tops : ∀ x, (c.tops.any fun y => decide (y = x)) = true → X.mg x = none
  fns : ∀ f x, c.fns[f]? = some x → FnAt X XR call f x
  kbs : ∀ f x ks is, c.fns[f]? = some x → (f, ks, is) ∈ c.kbs → FnK X XR call f x ks is
  gls : ∀ g x, c.gls[g]? = some x → ∃ (a : A) (u : Value), X.mg x = some u ∧ RelV a.val u ∧ (∀ H, a.ok X.K H) ∧ a.er.imm = true ∧ gl g = some a.er
section
variable {c : Cc} {X : Cx} {gl : Nat → Option D} {call : Nat → List D → R D} {XR : XRel} {W : WX}
theorem nk_loc {o : Option NameKind} (h : NK.isLoc o = true) : o = some .local := by
  unfold NK.isLoc at h
  split at h
  · rfl
  · cases h
theorem nk_cell {o : Option NameKind} (h : NK.isCell o = true) : o = some .cell := by
  unfold NK.isCell at h
  split at h
  · rfl
  · cases h
theorem nk_free {o : Option NameKind} (h : NK.isFree o = true) : o = some .free := by
  unfold NK.isFree at h
  split at h
  · rfl
  · cases h
theorem nk_gl {o : Option NameKind} (h : NK.isGl o = true) : o = some .globalImplicit := by
  unfold NK.isGl at h
  split at h
  · rfl
  · cases h
theorem plainN_of {x : Str} (h : plainN x = true) : (x == ("__debug__" : Str)) = false ∧ (x == ("__classdict__" : Str)) = false := by
  unfold plainN at h
  simpa using h
theorem at_of {i : Nat} {x : Str} (O : Okc c X gl call XR W) (h : c.at i x = true) : X.N[i]? = some x := by
  unfold Cc.at at h
  rw [O.N]
  split at h
  · rename_i y e
    rw [e, of_decide_eq_true h]
  · cases h
theorem vis_of {i : Nat} {x : Str} (O : Okc c X gl call XR W) (h : c.vis i x = true) : X.N[i]? = some x ∧ Vis X.env.scope x ∧ (x == ("__debug__" : Str)) = false ∧ (x == ("__classdict__" : Str)) = false := by
  unfold Cc.vis at h
  simp only [Bool.and_eq_true, Bool.or_eq_true] at h
  refine ⟨at_of O h.1.1, ?_, plainN_of h.2⟩
  unfold Vis
  rw [O.sc]
  rcases h.1.2 with (q | q) | q
  · exact .inl (nk_loc q)
  · exact .inr (.inl (nk_cell q))
  · exact .inr (.inr (nk_free q))
theorem loc_of {i : Nat} {x : Str} (O : Okc c X gl call XR W) (h : c.loc i x = true) : X.N[i]? = some x ∧ L2.Loc X.env.scope x ∧ (X.fn x = true ∨ X.env.scope.names.lookup x = some .local) := by
  unfold Cc.loc at h
  simp only [Bool.and_eq_true, Bool.or_eq_true] at h
  refine ⟨at_of O h.1, ?_⟩
  rcases h.2 with q | q
  · have e : X.env.scope.names.lookup x = some .local := by rw [O.sc]; exact nk_loc q
    exact ⟨.inl e, .inr e⟩
  · have e : X.env.scope.names.lookup x = some .cell := by rw [O.sc]; exact nk_cell q.1
    exact ⟨.inr e, .inl (O.fnc x q.2)⟩
theorem gl_of {x : Str} (O : Okc c X gl call XR W) (h : c.gl x = true) : Gl X x ∧ (x == ("__debug__" : Str)) = false := by
  unfold Cc.gl at h
  rw [Bool.and_eq_true] at h
  refine ⟨?_, (plainN_of h.2).1⟩
  have := nk_gl h.1
  unfold Cc.lk at this
  rw [← O.sc] at this
  exact this
theorem blt_of {x : Str} (O : Okc c X gl call XR W) (h : c.blt x = true) : Gl X x ∧ (x == ("__debug__" : Str)) = false ∧ X.mg x = none ∧ x ≠ "__name__" := by
  unfold Cc.blt at h
  simp only [Bool.and_eq_true, Bool.not_eq_true'] at h
  obtain ⟨g, d⟩ := gl_of O h.1.1
  exact ⟨g, d, O.tops x h.1.2, of_decide_eq_false h.2⟩
theorem Blt.boot {b : Blt} (h : b.known = true) : bootBuiltins (Str.ofString b.nm) = some b.vl := by
  cases b <;> first | (simp [Blt.known] at h; done) | decide +kernel
theorem isi_boot : bootBuiltins "isinstance" = some (.builtin "isinstance") := by decide +kernel
theorem Ty.boot (t : Ty) : bootBuiltins (Str.ofString t.nm) = some (.type t.nm) := by
  cases t <;> decide +kernel
theorem soundTy : ∀ (ts : List Ty) (exs : List Expr) {c : Cc} {X : Cx} {gl : Nat → Option D} {call : Nat → List D → R D} {XR : XRel} {W : WX}, Okc c X gl call XR W → chkTy c ts exs = true → Paired (fun (t : Ty) ex => plainE ex = true ∧ PE X ex (tC (.ty t.nm))) ts exs
  | [], exs, c, X, gl, call, XR, W, O, h => by
    simp only [chkTy] at h
    split at h
    · exact .nil
    · cases h
  | t :: ts, exs, c, X, gl, call, XR, W, O, h => by
    simp only [chkTy] at h
    split at h
    · simp only [Bool.and_eq_true] at h
      have e2 := of_decide_eq_true h.1.1
      subst e2
      obtain ⟨g', d', m', n'⟩ := blt_of O h.1.2
      exact .cons ⟨rfl, pe_ty g' m' (Ty.boot t) n' d'⟩ (soundTy ts _ O h.2)
    · cases h
theorem blkOk_of {sc : Scope} {own : List (Str × Nat)} (O : Okc c X gl call XR W) (h : c.blkOk sc own = true) : BlkOk X.N X.env.scope sc own := by
  refine blkOk_by ?_
  unfold Cc.blkOk at h
  unfold blkC
  rw [O.N, O.sc]
  exact h
theorem okc_blk {sc : Scope} {own : List (Str × Nat)} (O : Okc c X gl call XR W) (h : c.blkOk sc own = true) (s : Shared) (H : Hp) (C : Addr) (cl : List (Str × Addr)) (fp : List Addr) :
    Okc (c.blk sc) (X.blk s H sc (compEnvC sc cl C X.env) fp) gl call XR (fun _ _ _ _ => False) where
  N := O.N
  nd := O.nd
  sc := by
    show (relS sc X.env.scope).names = relN sc.names c
    unfold relS relN
    rw [O.sc, O.kind]
  kind := rfl
  kf := (blkOk_of O h).kind
  fnc := fun x hx => by
    show (sc.names.lookup x == some .cell) = true
    have : sc.names.lookup x = some .cell := nk_cell hx
    rw [this]; rfl
  calm := O.calm
  units := O.units
  tk := takes0
  ps := PassesOwn.never
  tops := O.tops
  fns := fun f x hx => ⟨(O.fns f x hx).ex⟩
  kbs := fun f x ks is h1 h2 => ⟨(O.kbs f x ks is h1 h2).ex⟩
  gls := O.gls
theorem beq_opt {o : Option Str} {x : Str} (h : (match o with | some y => decide (y = x) | none => false) = true) : o = some x := by
  cases o with
  | none => cases h
  | some y => rw [of_decide_eq_true h]
end
inductive LS (X : Cx) (gl : Nat → Option D) (call : Nat → List D → R D) (XR : XRel) (W : WX) : Ev.Es → List Expr → Prop
  | nil : LS X gl call XR W .nil []
  | cons {e ex es exs} : SE X gl call XR W e ex → plainE ex = true → LS X gl call XR W es exs → LS X gl call XR W (.cons e es) (ex :: exs)
section
variable {X : Cx} {gl : Nat → Option D} {call : Nat → List D → R D} {XR : XRel} {W : WX}
theorem LS.pe {es : Ev.Es} {exs : List Expr} (h : LS X gl call XR W es exs) : PA X exs (tEs X.K gl call XR W es) := by
  induction h with
  | nil => exact s_nilE
  | cons h p _ ih => exact s_consE h ih p
theorem LS.pb {es : Ev.Es} {exs : List Expr} (h : LS X gl call XR W es exs) : PA X exs (tBs X.K gl call XR W es) := by
  induction h with
  | nil => exact s_nilB
  | cons h p _ ih => exact s_consB h ih p
theorem LS.pl {es : Ev.Es} {exs : List Expr} (h : LS X gl call XR W es exs) : exs.all plainE = true := by
  induction h with
  | nil => rfl
  | cons h p _ ih => rw [List.all_cons, p, ih]; rfl
end
theorem attrBase {o : Expr} {nm : Str} {env : PySem.Env} {p : Ev.P} {c : Cc} (h : chkP c p o = true) : attributeBase o nm env (eval o env) = eval o env := by
  cases p with
  | root i =>
    simp only [chkP] at h
    split at h
    · rfl
    · cases h
  | «at» p e =>
    simp only [chkP] at h
    split at h
    · rfl
    · cases h
/-- what the check tells -/
abbrev SB (X : Cx) (gl : Nat → Option D) (call : Nat → List D → R D) (XR : XRel) (W : WX) (e : Ev.E) (ex : Expr) : Prop := SE X gl call XR W e ex ∧ (e.isBool = true → PW X ex (tT X.K gl call XR W e))
mutual
theorem soundE : ∀ (e : Ev.E) (ex : Expr) {c : Cc} {X : Cx} {gl : Nat → Option D} {call : Nat → List D → R D} {XR : XRel} {W : WX}, Okc c X gl call XR W → chkE c e ex = true → SB X gl call XR W e ex
  | .var i, ex, c, X, gl, call, XR, W, O, h => by
    simp only [chkE] at h
    split at h
    · obtain ⟨a, b, d, f⟩ := vis_of O h
      exact ⟨s_var a b d f, fun z => by cases z⟩
    · cases h
  | .mov i, ex, c, X, gl, call, XR, W, O, h => by
    simp only [chkE] at h
    split at h
    · obtain ⟨a, b, d, f⟩ := vis_of O h
      exact ⟨s_mov a b d f, fun z => by cases z⟩
    · cases h
  | .lend i, ex, c, X, gl, call, XR, W, O, h => by simp [chkE] at h
  | .part, ex, c, X, gl, call, XR, W, O, h => by simp [chkE] at h
  | .non, ex, c, X, gl, call, XR, W, O, h => by
    simp only [chkE] at h
    split at h
    · exact ⟨s_non, fun z => by cases z⟩
    · cases h
  | .bl b, ex, c, X, gl, call, XR, W, O, h => by
    simp only [chkE] at h
    split at h
    · rw [beq_iff_eq] at h
      subst h
      exact ⟨s_bl, fun z => by cases z⟩
    · cases h
  | .int i, ex, c, X, gl, call, XR, W, O, h => by
    simp only [chkE] at h
    split at h
    · have := of_decide_eq_true h
      subst this
      exact ⟨s_int, fun z => by cases z⟩
    · cases h
  | .str s, ex, c, X, gl, call, XR, W, O, h => by
    simp only [chkE] at h
    split at h
    · rw [Bool.and_eq_true] at h
      have := of_decide_eq_true h.1
      subst this
      exact ⟨s_str h.2, fun z => by cases z⟩
    · cases h
  | .glb g, ex, c, X, gl, call, XR, W, O, h => by
    simp only [chkE] at h
    split at h
    · rw [Bool.and_eq_true] at h
      obtain ⟨a, u, h1, h2, h3, h4, h5⟩ := O.gls g _ (beq_opt h.2)
      obtain ⟨q, d⟩ := gl_of O h.1
      exact ⟨s_glb q h1 h2 h3 h4 h5 d, fun z => by cases z⟩
    · cases h
  | .bin o a b, ex, c, X, gl, call, XR, W, O, h => by
    simp only [chkE] at h
    split at h
    · simp only [Bool.and_eq_true] at h
      have := of_decide_eq_true h.1.1
      subst this
      exact ⟨s_bin (soundE a _ O h.1.2).1 (soundE b _ O h.2).1, fun z => by cases z⟩
    · cases h
  | .neg a, ex, c, X, gl, call, XR, W, O, h => by
    simp only [chkE] at h
    split at h
    · exact ⟨s_neg (soundE a _ O h).1, fun z => by cases z⟩
    · cases h
  | .cmp o a b, ex, c, X, gl, call, XR, W, O, h => by
    simp only [chkE] at h
    split at h
    · simp only [Bool.and_eq_true, Bool.not_eq_true'] at h
      have := of_decide_eq_true h.1.1.1
      subst this
      exact ⟨s_cmp O.units (soundE a _ O h.1.1.2).1 (soundE b _ O h.1.2).1 h.2, fun z => by cases z⟩
    · cases h
  | .chn o p a b d, ex, c, X, gl, call, XR, W, O, h => by
    simp only [chkE] at h
    split at h
    · simp only [Bool.and_eq_true, Bool.not_eq_true'] at h
      have := of_decide_eq_true h.1.1.1.1.1
      subst this
      have := of_decide_eq_true h.1.1.1.1.2
      subst this
      exact ⟨s_chn O.units (soundE a _ O h.1.1.1.2).1 (soundE b _ O h.1.1.2).1 (soundE d _ O h.1.2).1 h.2, fun z => by cases z⟩
    · cases h
  | .not a, ex, c, X, gl, call, XR, W, O, h => by
    simp only [chkE] at h
    split at h
    · rw [Bool.and_eq_true] at h
      exact ⟨s_not (soundE a _ O h.2).1 h.1, fun z => by cases z⟩
    · cases h
  | .and a b, ex, c, X, gl, call, XR, W, O, h => by
    simp only [chkE] at h
    split at h
    · rename_i ea eb rest pos
      rw [Bool.and_eq_true, Bool.and_eq_true] at h
      obtain ⟨⟨h1, h2⟩, h3⟩ := h
      have q : PE X (.BoolOp .And (ea :: eb :: rest) pos) (tV X.K gl call XR W (.and a b)) ∧ PW X (.BoolOp .And (ea :: eb :: rest) pos) (tT X.K gl call XR W (.and a b)) := by
        split at h3
        · rw [Bool.and_eq_true] at h3
          have hb := (soundE b _ O h3.2).1
          exact s_and (soundE a _ O h2).1 (pe_one hb.v) h1 (pw_and1 (hb.t h3.1))
        · rw [Bool.and_eq_true] at h3
          have hb := soundE b _ O h3.2
          exact s_and (soundE a _ O h2).1 hb.1.v h1 (hb.2 h3.1)
      exact ⟨s_boolop q rfl (fun _ => rfl), fun _ => q.2⟩
    · cases h
  | .or a b, ex, c, X, gl, call, XR, W, O, h => by
    simp only [chkE] at h
    split at h
    · rename_i ea eb rest pos
      rw [Bool.and_eq_true, Bool.and_eq_true] at h
      obtain ⟨⟨h1, h2⟩, h3⟩ := h
      have q : PE X (.BoolOp .Or (ea :: eb :: rest) pos) (tV X.K gl call XR W (.or a b)) ∧ PW X (.BoolOp .Or (ea :: eb :: rest) pos) (tT X.K gl call XR W (.or a b)) := by
        split at h3
        · rw [Bool.and_eq_true] at h3
          have hb := (soundE b _ O h3.2).1
          exact s_or (soundE a _ O h2).1 (pe_one hb.v) h1 (pw_or1 (hb.t h3.1))
        · rw [Bool.and_eq_true] at h3
          have hb := soundE b _ O h3.2
          exact s_or (soundE a _ O h2).1 hb.1.v h1 (hb.2 h3.1)
      exact ⟨s_boolop q rfl (fun _ => rfl), fun _ => q.2⟩
    · cases h
  | .ite t a b, ex, c, X, gl, call, XR, W, O, h => by
    simp only [chkE] at h
    split at h
    · simp only [Bool.and_eq_true] at h
      exact ⟨s_ite (soundE t _ O h.1.1.2).1 h.1.1.1 (soundE a _ O h.1.2).1 (soundE b _ O h.2).1, fun z => by cases z⟩
    · cases h
  | .tup es, ex, c, X, gl, call, XR, W, O, h => by
    simp only [chkE] at h
    split at h
    · exact ⟨s_tup (soundEs es _ O h).pe, fun z => by cases z⟩
    · cases h
  | .lst es, ex, c, X, gl, call, XR, W, O, h => by
    simp only [chkE] at h
    split at h
    · exact ⟨s_lst (soundEs es _ O h).pe, fun z => by cases z⟩
    · cases h
  | .idx a i, ex, c, X, gl, call, XR, W, O, h => by
    simp only [chkE] at h
    split at h
    · simp only [Bool.and_eq_true] at h
      exact ⟨s_idx (soundE a _ O h.1.1).1 (soundE i _ O h.1.2).1 h.2, fun z => by cases z⟩
    · cases h
  | .slc a lo hi, ex, c, X, gl, call, XR, W, O, h => by
    simp only [chkE] at h
    split at h
    · rename_i ea el eh p2 pos
      simp only [Bool.and_eq_true] at h
      obtain ⟨⟨h1, h2⟩, h3⟩ := h
      have part : ∀ {e : Ev.E}, e.isPart = true → e = .part := fun {e} h => by cases e <;> first | rfl | (simp [E.isPart] at h)
      have np : ∀ {e : Ev.E}, e.isPart = false → e ≠ .part := fun {e} h z => by subst z; simp [E.isPart] at h
      have kl : ∃ tl, PO X el tl ∧ ((lo = .part ∧ tl = tNoPart) ∨ (lo ≠ .part ∧ tl = tPart (tV X.K gl call XR W lo))) := by
        split at h2
        · exact ⟨_, po_none, .inl ⟨part h2, rfl⟩⟩
        · simp only [Bool.and_eq_true, Bool.not_eq_true'] at h2
          exact ⟨_, po_some (soundE lo _ O h2.2).1.v, .inr ⟨np h2.1, rfl⟩⟩
      have kh : ∃ th, PO X eh th ∧ ((hi = .part ∧ th = tNoPart) ∨ (hi ≠ .part ∧ th = tPart (tV X.K gl call XR W hi))) := by
        split at h3
        · exact ⟨_, po_none, .inl ⟨part h3, rfl⟩⟩
        · simp only [Bool.and_eq_true, Bool.not_eq_true'] at h3
          exact ⟨_, po_some (soundE hi _ O h3.2).1.v, .inr ⟨np h3.1, rfl⟩⟩
      obtain ⟨tl, l1, l2⟩ := kl
      obtain ⟨th, r1, r2⟩ := kh
      exact ⟨s_slc (soundE a _ O h1).1 l1 r1 l2 r2, fun z => by cases z⟩
    · cases h
  | .call f es, ex, c, X, gl, call, XR, W, O, h => by
    simp only [chkE] at h
    split at h
    · simp only [Bool.and_eq_true] at h
      obtain ⟨g, d⟩ := gl_of O h.1.1
      obtain ⟨a1, a2, a3⟩ := soundAs es _ O h.2
      exact ⟨s_call O.tk (O.fns f _ (beq_opt h.1.2)) a3 a1 a2 g d, fun z => by cases z⟩
    · cases h
  | .callk f n is es, ex, c, X, gl, call, XR, W, O, h => by
    simp only [chkE] at h
    split at h
    · simp only [Bool.and_eq_true] at h
      obtain ⟨⟨⟨⟨h1, h2⟩, h3⟩, h4⟩, h5⟩ := h
      obtain ⟨g, d⟩ := gl_of O h1
      have := of_decide_eq_true h3
      subst this
      obtain ⟨q, mq, hq⟩ := List.any_eq_true.mp h4
      simp only [Bool.and_eq_true] at hq
      obtain ⟨⟨⟨⟨q1, q2⟩, q3⟩, q4⟩, q5⟩ := hq
      obtain ⟨f', ks, is'⟩ := q
      have e1 : f' = f := of_decide_eq_true q1
      have e2 : is' = is := of_decide_eq_true q2
      subst e1 e2
      exact ⟨s_callk O.tk (O.kbs f' _ ks is' (beq_opt h2) mq) (soundKs es _ O h5) (of_decide_eq_true q3) (of_decide_eq_true q4) q5 g d, fun z => by cases z⟩
    · cases h
  | .blt b es, ex, c, X, gl, call, XR, W, O, h => by
    simp only [chkE] at h
    split at h
    · simp only [Bool.and_eq_true] at h
      have e := of_decide_eq_true h.1.1.2
      obtain ⟨g, d, m, n⟩ := blt_of O h.1.2
      have L := soundEs es _ O h.2
      refine ⟨s_blt (e := .non) O.calm O.units L.pb L.pl g m ?_ n d, fun z => by cases z⟩
      rw [e]
      exact Blt.boot h.1.1.1
    · cases h
  | .isi a t, ex, c, X, gl, call, XR, W, O, h => by
    simp only [chkE] at h
    split at h
    · simp only [Bool.and_eq_true] at h
      obtain ⟨⟨⟨⟨⟨h1, h2⟩, h3⟩, h4⟩, h5⟩, h6⟩ := h
      have e1 := of_decide_eq_true h1
      have e2 := of_decide_eq_true h5
      subst e1 e2
      obtain ⟨g, d, m, n⟩ := blt_of O h2
      obtain ⟨g', d', m', n'⟩ := blt_of O h6
      exact ⟨s_isi (soundE a _ O h3).1 h4 g m isi_boot n d (pe_ty g' m' (Ty.boot t) n' d'), fun z => by cases z⟩
    · cases h
  | .isis a ts, ex, c, X, gl, call, XR, W, O, h => by
    simp only [chkE] at h
    split at h
    · simp only [Bool.and_eq_true, Bool.not_eq_true'] at h
      obtain ⟨⟨⟨⟨⟨⟨h1, h2⟩, h3⟩, h4⟩, h5⟩, h6⟩, h7⟩ := h
      have e1 := of_decide_eq_true h1
      subst e1
      obtain ⟨g, d, m, n⟩ := blt_of O h2
      exact ⟨s_isis (soundE a _ O h3).1 h4 g m isi_boot n d (soundTy ts _ O h7) (by rintro rfl; simp at h5) (of_decide_eq_true h6), fun z => by cases z⟩
    · cases h
  | .comp elt tg it cond has own, ex, c, X, gl, call, XR, W, O, h => by
    simp only [chkE] at h
    split at h
    · rename_i ee te ie ifs as sc pos
      simp only [Bool.and_eq_true] at h
      obtain ⟨⟨⟨⟨⟨⟨h1, h2⟩, h3⟩, h4⟩, h5⟩, h6⟩, h7⟩ := h
      have e1 := of_decide_eq_true h1
      subst e1
      have ho : own = (ownOf c own).map (·.2) := by unfold ownOf; rw [List.map_map]; exact (List.map_id _).symm
      refine ⟨s_comp O.calm (by rw [O.N]; exact O.nd) ho (soundI it te ie O h2) (blkOk_of O h4) (fun s H C cl fp => soundG tg te (okc_blk O h4 s H C cl fp) h5) (fun s H C cl fp => pts_of (has := has) ?_) (fun s H C cl fp => (soundE elt ee (okc_blk O h4 s H C cl fp) h6).1.v) h3, fun z => by cases z⟩
      split at h7
      · simp only [Bool.and_eq_true, Bool.not_eq_true'] at h7
        refine .inl ⟨h7.1, rfl, ?_⟩
        have h8 := h7.2
        split at h8
        · rfl
        · cases h8
      · simp only [Bool.and_eq_true] at h7
        exact .inr ⟨h7.1.1, _, rfl, (soundE cond _ (okc_blk O h4 s H C cl fp) h7.2).1.t h7.1.2⟩
      · cases h7
    · cases h
  | .mth k p es, ex, c, X, gl, call, XR, W, O, h => by
    simp only [chkE] at h
    split at h
    · simp only [Bool.and_eq_true] at h
      obtain ⟨⟨⟨⟨h1, h2⟩, h3⟩, h4⟩, h5⟩ := h
      have e := of_decide_eq_true h2
      rcases soundM es _ p.isRoot O h5 with ⟨rfl, rfl⟩ | ⟨e', ee, rfl, rfl, q1, q2, q3⟩
      · exact ⟨s_mth0 h1 e (soundP p _ O h3) (attrBase h3) h4, fun z => by cases z⟩
      · exact ⟨s_mth1 h1 e (soundP p _ O h3) q1 q3 q2 (attrBase h3) h4, fun z => by cases z⟩
    · cases h
  | .frz e, ex, c, X, gl, call, XR, W, O, h => ⟨s_frz (soundE e ex O (by simpa only [chkE] using h)).1, fun z => by cases z⟩
  | .srt e, ex, c, X, gl, call, XR, W, O, h => by
    simp only [chkE] at h
    split at h
    · simp only [Bool.and_eq_true] at h
      obtain ⟨⟨⟨⟨⟨h1, h2⟩, h3⟩, h4⟩, h5⟩, h6⟩ := h
      have e1 := of_decide_eq_true h1
      have e2 := of_decide_eq_true h3
      subst e1 e2
      obtain ⟨g1, _, m1, _⟩ := blt_of O h2
      obtain ⟨g2, _, m2, _⟩ := blt_of O h4
      exact ⟨s_srt O.calm O.units (soundE e _ O h5).1 h6 g1 m1 g2 m2, fun z => by cases z⟩
    · cases h
theorem soundM : ∀ (es : Ev.Es) (exs : List Expr) (r : Bool) {c : Cc} {X : Cx} {gl : Nat → Option D} {call : Nat → List D → R D} {XR : XRel} {W : WX}, Okc c X gl call XR W → chkM c r es exs = true →
    (es = .nil ∧ exs = []) ∨ ∃ e ee, es = .cons e .nil ∧ exs = [ee] ∧ SE X gl call XR W e ee ∧ plainE ee = true ∧ (r = true ∨ e.quiet = true)
  | .nil, exs, r, c, X, gl, call, XR, W, O, h => by
    simp only [chkM] at h
    split at h
    · exact .inl ⟨rfl, rfl⟩
    · cases h
  | .cons e es, exs, r, c, X, gl, call, XR, W, O, h => by
    simp only [chkM] at h
    split at h
    · simp only [Bool.and_eq_true, Bool.or_eq_true] at h
      have : es = .nil := by cases es <;> first | rfl | (have z := h.1.1.1; simp [Es.isNil] at z)
      subst this
      exact .inr ⟨e, _, rfl, rfl, (soundE e _ O h.1.1.2).1, h.1.2, h.2⟩
    · cases h
theorem soundEs : ∀ (es : Ev.Es) (exs : List Expr) {c : Cc} {X : Cx} {gl : Nat → Option D} {call : Nat → List D → R D} {XR : XRel} {W : WX}, Okc c X gl call XR W → chkEs c es exs = true → LS X gl call XR W es exs
  | .nil, exs, c, X, gl, call, XR, W, O, h => by
    simp only [chkEs] at h
    split at h
    · exact .nil
    · cases h
  | .cons e es, exs, c, X, gl, call, XR, W, O, h => by
    simp only [chkEs] at h
    split at h
    · simp only [Bool.and_eq_true] at h
      exact .cons (soundE e _ O h.1.1).1 h.1.2 (soundEs es _ O h.2)
    · cases h
theorem soundAs : ∀ (es : Ev.Es) (exs : List Expr) {c : Cc} {X : Cx} {gl : Nat → Option D} {call : Nat → List D → R D} {XR : XRel} {W : WX}, Okc c X gl call XR W → chkAs c es exs = true → PA X exs (tAs X.K gl call XR W es) ∧ exs.all plainE = true ∧ (exs = [] → es = .nil)
  | .nil, exs, c, X, gl, call, XR, W, O, h => by
    simp only [chkAs] at h
    split at h
    · exact ⟨s_nilA, rfl, fun _ => rfl⟩
    · cases h
  | .cons e es, exs, c, X, gl, call, XR, W, O, h => by
    simp only [chkAs] at h
    split at h
    · rename_i ex exs
      rw [Bool.and_eq_true] at h
      obtain ⟨a1, a2, _⟩ := soundAs es _ O h.2
      have h1 := h.1
      split at h1
      · rename_i i hl
        have he : e = .lend i := by cases e <;> simp [E.lent?] at hl; rw [hl]
        subst he
        split at h1
        · obtain ⟨a, b, d, f⟩ := vis_of O h1
          exact ⟨s_lentA a b d f a1, by rw [List.all_cons, a2]; rfl, fun z => by cases z⟩
        · cases h1
      · rename_i hl
        rw [Bool.and_eq_true] at h1
        exact ⟨s_consA hl (soundE e _ O h1.1).1 a1 h1.2, by rw [List.all_cons, a2, h1.2]; rfl, fun z => by cases z⟩
    · cases h
theorem soundKs : ∀ (es : Ev.Es) (kws : List Keyword) {c : Cc} {X : Cx} {gl : Nat → Option D} {call : Nat → List D → R D} {XR : XRel} {W : WX}, Okc c X gl call XR W → chkKs c es kws = true → PK X kws (tAs X.K gl call XR W es)
  | .nil, kws, c, X, gl, call, XR, W, O, h => by
    simp only [chkKs] at h
    split at h
    · exact s_nilK
    · cases h
  | .cons e es, kws, c, X, gl, call, XR, W, O, h => by
    simp only [chkKs] at h
    split at h
    · rename_i kw kws
      obtain ⟨nm, val, kp⟩ := kw
      rw [Bool.and_eq_true] at h
      have a1 := soundKs es _ O h.2
      have h1 := h.1
      split at h1
      · rename_i i hl
        have he : e = .lend i := by cases e <;> simp [E.lent?] at hl; rw [hl]
        subst he
        simp only at h1
        split at h1
        · obtain ⟨a, b, d, f⟩ := vis_of O h1
          exact s_lentK a b d f a1
        · cases h1
      · rename_i hl
        exact s_consK hl (soundE e _ O h1).1 a1
    · cases h
theorem soundI : ∀ (it : Ev.It) (te ie : Expr) {c : Cc} {X : Cx} {gl : Nat → Option D} {call : Nat → List D → R D} {XR : XRel} {W : WX}, Okc c X gl call XR W → chkI c it te ie = true → PI X te ie (tI X.K gl call XR W it)
  | .rng1 a, te, ie, c, X, gl, call, XR, W, O, h => by
    simp only [chkI] at h
    split at h
    · simp only [Bool.and_eq_true] at h
      have e := of_decide_eq_true h.1.1.1
      subst e
      obtain ⟨g, d, m, n⟩ := blt_of O h.1.1.2
      exact s_rng1 g m (soundE a _ O h.1.2).1 h.2
    · cases h
  | .rng2 a b, te, ie, c, X, gl, call, XR, W, O, h => by
    simp only [chkI] at h
    split at h
    · simp only [Bool.and_eq_true] at h
      obtain ⟨⟨⟨⟨⟨h1, h2⟩, h3⟩, h4⟩, h5⟩, h6⟩ := h
      have e := of_decide_eq_true h1
      subst e
      obtain ⟨g, d, m, n⟩ := blt_of O h2
      exact s_rng2 g m (soundE a _ O h3).1 (soundE b _ O h5).1 h4 h6
    · cases h
  | .froz i, te, ie, c, X, gl, call, XR, W, O, h => by
    simp only [chkI] at h
    split at h
    · obtain ⟨a, b, d, f⟩ := vis_of O h
      exact s_froz a b d f
    · cases h
  | .seqv a, te, ie, c, X, gl, call, XR, W, O, h => by
    simp only [chkI] at h
    exact s_seqv (soundE a _ O h).1
  | .seq a, te, ie, c, X, gl, call, XR, W, O, h => by
    simp only [chkI] at h
    exact s_seq (soundE a _ O h).1
  | .zip a b, te, ie, c, X, gl, call, XR, W, O, h => by simp [chkI] at h
  | .enum a, te, ie, c, X, gl, call, XR, W, O, h => by simp [chkI] at h
theorem soundP : ∀ (p : Ev.P) (ex : Expr) {c : Cc} {X : Cx} {gl : Nat → Option D} {call : Nat → List D → R D} {XR : XRel} {W : WX}, Okc c X gl call XR W → chkP c p ex = true → PE X ex (tP X.K gl call XR W p)
  | .root i, ex, c, X, gl, call, XR, W, O, h => by
    simp only [chkP] at h
    split at h
    · obtain ⟨a, b, d, f⟩ := vis_of O h
      exact s_rootP a b d f
    · cases h
  | .at p e, ex, c, X, gl, call, XR, W, O, h => by
    simp only [chkP] at h
    split at h
    · simp only [Bool.and_eq_true] at h
      exact s_atP (soundP p _ O h.1.1.1) (soundE e _ O h.1.1.2).1 h.1.2 h.2
    · cases h
theorem soundG : ∀ (t : Tg) (ex : Expr) {c : Cc} {X : Cx} {gl : Nat → Option D} {call : Nat → List D → R D} {XR : XRel} {W : WX} {ok : Nat → Bool}, Okc c X gl call XR W → chkG c t ex = true → PG X ex (tG X.K ok t)
  | .nm i, ex, c, X, gl, call, XR, W, ok, O, h => by
    simp only [chkG] at h
    split at h
    · obtain ⟨a, b, d⟩ := loc_of O h
      exact s_nm (by rw [O.N]; exact O.nd) a b d
    · cases h
  | .tup ts, ex, c, X, gl, call, XR, W, ok, O, h => by
    simp only [chkG] at h
    split at h
    · simp only [Bool.and_eq_true, beq_iff_eq] at h
      exact s_tupG O.calm (soundGs ts _ O h.1.1) h.1.2 h.2
    · cases h
theorem soundGs : ∀ (ts : Tgs) (exs : List Expr) {c : Cc} {X : Cx} {gl : Nat → Option D} {call : Nat → List D → R D} {XR : XRel} {W : WX} {ok : Nat → Bool}, Okc c X gl call XR W → chkGs c ts exs = true → PGs X exs (tGs X.K ok ts)
  | .nil, exs, c, X, gl, call, XR, W, ok, O, h => by
    simp only [chkGs] at h
    split at h
    · exact s_nilG
    · cases h
  | .cons t ts, exs, c, X, gl, call, XR, W, ok, O, h => by
    simp only [chkGs] at h
    split at h
    · simp only [Bool.and_eq_true] at h
      exact s_consG (soundG t _ O h.1.1) (soundGs ts _ O h.2) h.1.2
    · cases h
end
end Ev
end

section
set_option Elab.async false
set_option linter.all false
set_option maxRecDepth 100000
/-! EvC3: the check's meaning: statements. -/
namespace Ev
open PySem L2
section
variable {c : Cc} {X : Cx} {gl : Nat → Option D} {call : Nat → List D → R D} {XR : XRel} {W : WX}
theorem kindOf_eq (O : Okc c X gl call XR W) (x : Str) : X.env.kindOf x = c.lk x := by
  show X.env.scope.names.lookup x = c.names.lookup x
  rw [O.sc]
theorem bk_eq (O : Okc c X gl call XR W) : X.env.blockKind = .function := by
  unfold Env.blockKind
  rw [O.kind, O.kf]
  rfl
theorem starE_eq : (fun e : Expr => match e with | .Starred .. => true | _ => false) = starE := by
  funext e
  cases e <;> rfl
def nameOnE (env : PySem.Env) (line : Nat) : Expr → Option Str
  | .Name id pos => if env.kindOf id == some .local && pos.line == line then some id else none
  | _ => none
theorem nameOn_eq (O : Okc c X gl call XR W) (l : Nat) : nameOnE X.env l = nameOn c l := by
  funext e
  cases e <;> first | rfl | (simp only [nameOn, nameOnE, kindOf_eq O])
theorem sw_form (ts vs : List Expr) (k1 k2 : Nat) (p1 p2 : Pos) (env : PySem.Env) : ∃ u, swappedStores [.Tuple ts k1 p1] (.Tuple vs k2 p2) env =
    (if (!(ts.length == 2 || ts.length == 3) || vs.length != ts.length || env.blockKind != .function) = true then pure none else
      if (vs.any fun | .Starred .. => true | _ => false) = true then pure none else
        if ((ts.filterMap (nameOnE env ((ts.head?.map (·.pos.line)).getD 0))).length != ts.length || (ts.filterMap (nameOnE env ((ts.head?.map (·.pos.line)).getD 0))).eraseDups.length != (ts.filterMap (nameOnE env ((ts.head?.map (·.pos.line)).getD 0))).length) = true then pure none else
          if vs.all (foldedForSure 8) = true then pure none else
            if vs.all (constantsAlone 8) = true then u else pure (some (ts.filterMap (nameOnE env ((ts.head?.map (·.pos.line)).getD 0))))) := ⟨_, rfl⟩
theorem starAny_eq (vs : List Expr) : (vs.any fun | .Starred .. => true | _ => false) = vs.any starE := by
  congr 1
theorem swNone_of {te ex : Expr} (O : Okc c X gl call XR W) (h : swNone c te ex = true) : swappedStores [te] ex X.env = pure none := by
  unfold swNone at h
  split at h
  · rename_i ts k1 p1 vs k2 p2
    obtain ⟨u, e⟩ := sw_form ts vs k1 k2 p1 p2 X.env
    rw [e, bk_eq O, nameOn_eq O, starAny_eq]
    by_cases h1 : (!(ts.length == 2 || ts.length == 3) || vs.length != ts.length || ScopeKind.function != ScopeKind.function) = true
    · rw [if_pos h1]
    rw [if_neg h1]
    by_cases h2 : vs.any starE = true
    · rw [if_pos h2]
    rw [if_neg h2]
    by_cases h3 : ((ts.filterMap (nameOn c ((ts.head?.map (·.pos.line)).getD 0))).length != ts.length || (ts.filterMap (nameOn c ((ts.head?.map (·.pos.line)).getD 0))).eraseDups.length != (ts.filterMap (nameOn c ((ts.head?.map (·.pos.line)).getD 0))).length) = true
    · rw [if_pos h3]
    rw [if_neg h3]
    by_cases h4 : vs.all (foldedForSure 8) = true
    · rw [if_pos h4]
    exfalso
    simp only [Bool.not_eq_true] at h1 h2 h3 h4
    have h1' : (!(ts.length == 2 || ts.length == 3) || vs.length != ts.length) = false := (Bool.or_eq_false_iff.mp h1).1
    rw [h1', h2, h4] at h
    simp only [Bool.false_or, Bool.or_false] at h
    rw [h3] at h
    cases h
  · cases h
  · rename_i h1 h2
    cases te <;> first | rfl | (cases ex <;> first | rfl | exact absurd rfl (h1 _ _ _ _ _ _ rfl) | exact (h1 _ _ _ _ _ _ rfl rfl).elim | exact (h2 _ _ _ _ _ rfl rfl).elim)
theorem plain_star {e : Expr} (h : plainE e = true) : starE e = false := by cases e <;> first | rfl | (simp [plainE] at h)
theorem sw_two {x y : Str} {px py pt p2 : Pos} {kt k2 : Nat} {a b : Expr} (O : Okc c X gl call XR W) (hx : NK.isLoc (c.lk x) = true) (hy : NK.isLoc (c.lk y) = true) (hl : (px.line == py.line) = true) (hn : ¬ x = y) (pa : plainE a = true) (pb : plainE b = true)
    (hf : (foldedForSure 8 a && foldedForSure 8 b) = false) (hc : (constantsAlone 8 a && constantsAlone 8 b) = false) : swappedStores [.Tuple [.Name x px, .Name y py] kt pt] (.Tuple [a, b] k2 p2) X.env = pure (some [x, y]) := by
  obtain ⟨u, e⟩ := sw_form [.Name x px, .Name y py] [a, b] kt k2 pt p2 X.env
  have en : [Expr.Name x px, .Name y py].filterMap (nameOn c ((([Expr.Name x px, .Name y py] : List Expr).head?.map (·.pos.line)).getD 0)) = [x, y] := by
    have e1 : nameOn c px.line (.Name x px) = some x := by simp [nameOn, nk_loc hx]
    have e2 : nameOn c px.line (.Name y py) = some y := by simp [nameOn, nk_loc hy, (beq_iff_eq.mp hl).symm]
    show [Expr.Name x px, .Name y py].filterMap (nameOn c px.line) = _
    simp [List.filterMap_cons, e1, e2]
  rw [e, bk_eq O, nameOn_eq O, starAny_eq, en]
  have ed : [x, y].eraseDups = [x, y] := by
    have : (y == x) = false := by simpa using fun z : y = x => hn z.symm
    simp [List.eraseDups_cons, this]
  rw [ed]
  simp only [List.any_cons, List.any_nil, List.all_cons, List.all_nil, plain_star pa, plain_star pb, Bool.and_true, hf, hc]
  rfl
theorem sw_three {x y z : Str} {px py pz pt p2 : Pos} {kt k2 : Nat} {a b d : Expr} (O : Okc c X gl call XR W) (hx : NK.isLoc (c.lk x) = true) (hy : NK.isLoc (c.lk y) = true) (hz : NK.isLoc (c.lk z) = true) (hl : (px.line == py.line) = true) (hl' : (px.line == pz.line) = true)
    (hn : ¬ x = y) (hn2 : ¬ x = z) (hn3 : ¬ y = z) (pa : plainE a = true) (pb : plainE b = true) (pd : plainE d = true)
    (hf : (foldedForSure 8 a && foldedForSure 8 b && foldedForSure 8 d) = false) (hc : (constantsAlone 8 a && constantsAlone 8 b && constantsAlone 8 d) = false) : swappedStores [.Tuple [.Name x px, .Name y py, .Name z pz] kt pt] (.Tuple [a, b, d] k2 p2) X.env = pure (some [x, y, z]) := by
  obtain ⟨u, e⟩ := sw_form [.Name x px, .Name y py, .Name z pz] [a, b, d] kt k2 pt p2 X.env
  have en : [Expr.Name x px, .Name y py, .Name z pz].filterMap (nameOn c ((([Expr.Name x px, .Name y py, .Name z pz] : List Expr).head?.map (·.pos.line)).getD 0)) = [x, y, z] := by
    have e1 : nameOn c px.line (.Name x px) = some x := by simp [nameOn, nk_loc hx]
    have e2 : nameOn c px.line (.Name y py) = some y := by simp [nameOn, nk_loc hy, (beq_iff_eq.mp hl).symm]
    have e3 : nameOn c px.line (.Name z pz) = some z := by simp [nameOn, nk_loc hz, (beq_iff_eq.mp hl').symm]
    show [Expr.Name x px, .Name y py, .Name z pz].filterMap (nameOn c px.line) = _
    simp [List.filterMap_cons, e1, e2, e3]
  rw [e, bk_eq O, nameOn_eq O, starAny_eq, en]
  have ed : [x, y, z].eraseDups = [x, y, z] := by
    have h1 : (y == x) = false := by simpa using fun q : y = x => hn q.symm
    have h2 : (z == x) = false := by simpa using fun q : z = x => hn2 q.symm
    have h3 : (z == y) = false := by simpa using fun q : z = y => hn3 q.symm
    simp [List.eraseDups_cons, h1, h2, h3]
  rw [ed]
  have hf' : (foldedForSure 8 a && (foldedForSure 8 b && foldedForSure 8 d)) = false := by rw [← Bool.and_assoc]; exact hf
  have hc' : (constantsAlone 8 a && (constantsAlone 8 b && constantsAlone 8 d)) = false := by rw [← Bool.and_assoc]; exact hc
  simp only [List.any_cons, List.any_nil, List.all_cons, List.all_nil, plain_star pa, plain_star pb, plain_star pd, Bool.and_true, hf', hc']
  rfl
theorem lcSwap_eq {x : Str} {px pv : Pos} {sc : Scope} {l : Nat} {elt : Expr} {gs : List Comprehension} (O : Okc c X gl call XR W) : swapsWith (.ListComp elt gs sc pv) (some (.Name x px)) l X.env = pure (c.lcSwap x px sc pv) := by
  unfold swapsWith
  dsimp only
  rw [bk_eq O, kindOf_eq O]
  have : (c.lk x == some NameKind.local) = NK.isLoc (c.lk x) := by
    cases c.lk x with
    | none => rfl
    | some k => cases k <;> rfl
  rw [this]
  rfl
theorem s_setG {fuel : Nat} {ok : Nat → Bool} {pos : Pos} {e : Ev.E} {ex te : Expr} {tg : Tg} (he : SE X gl call XR W e ex) (hg : PG X te (tG X.K ok tg)) (hn : swapsWithSole [te] ex pos.line X.env = pure false) (hp : plainE te = true) (hw : swappedStores [te] ex X.env = pure none) :
    PS X (.Assign [te] ex pos) (tS X.K gl call XR W fuel ok (.set tg e)) := impS (ps_asg he.v hg hn hw (by rw [assignCons hp]; rfl)) fun D σ H q => by
  obtain ⟨α, m, g, s⟩ := q
  refine ⟨α, m, g, sat_mono (osat_o s) (fun d ρ f x α1 H1 e1 e2 m1 st => ?_) fun _ _ z => z⟩
  subst e1 e2
  obtain ⟨ρ', e3, f⟩ := osat_opt f
  exact ⟨x, α1, ρ', rfl, m1, st.good, e3, fun σ' α' e m' g' sub kp => f σ' α' H1 e ⟨m', kp, st.asF.trans (W' := []) (stp_same g' sub) (by simp)⟩⟩
/-- a comprehension by its parts -/
theorem soundC {elt cond : Ev.E} {tg : Tg} {it : Ev.It} {has : Bool} {own : List Nat} {ee : Expr} {gs : List Comprehension} {sc : Scope} {pos : Pos} (O : Okc c X gl call XR W) (h : chkE c (.comp elt tg it cond has own) (.ListComp ee gs sc pos) = true) :
    ∃ te ie ifs, gs = [⟨te, ie, ifs, 0⟩] ∧ own = (ownOf c own).map (·.2) ∧ PI X te ie (tI X.K gl call XR W it) ∧ BlkOk X.N X.env.scope sc (ownOf c own) ∧ (BlkSE X gl call XR sc fun Y => PG Y te (tG X.K (fun i => own.contains i) tg)) ∧
      (BlkSE X gl call XR sc fun Y => PTs Y ifs (tT X.K gl call XR (fun _ _ _ _ => False) cond)) ∧ (BlkSE X gl call XR sc fun Y => PE Y ee (tV X.K gl call XR (fun _ _ _ _ => False) elt)) ∧ notSet ie = true := by
  simp only [chkE] at h
  split at h
  · rename_i ee' te ie ifs as sc' pos' e
    cases e
    simp only [Bool.and_eq_true] at h
    obtain ⟨⟨⟨⟨⟨⟨h1, h2⟩, h3⟩, h4⟩, h5⟩, h6⟩, h7⟩ := h
    have e1 := of_decide_eq_true h1
    subst e1
    refine ⟨te, ie, ifs, rfl, by unfold ownOf; rw [List.map_map]; exact (List.map_id _).symm, soundI it te ie O h2, blkOk_of O h4, fun s H C cl fp => soundG tg te (okc_blk O h4 s H C cl fp) h5, fun s H C cl fp => pts_of (has := has) ?_, fun s H C cl fp => (soundE elt ee (okc_blk O h4 s H C cl fp) h6).1.v, h3⟩
    split at h7
    · simp only [Bool.and_eq_true, Bool.not_eq_true'] at h7
      refine .inl ⟨h7.1, rfl, ?_⟩
      have h8 := h7.2
      split at h8
      · rfl
      · cases h8
    · simp only [Bool.and_eq_true] at h7
      exact .inr ⟨h7.1.1, _, rfl, (soundE cond _ (okc_blk O h4 s H C cl fp) h7.2).1.t h7.1.2⟩
    · cases h7
  · cases h
theorem LS.two {es : Ev.Es} {a b : Expr} (h : LS X gl call XR W es [a, b]) : plainE a = true ∧ plainE b = true := by
  cases h with
  | cons _ p h => cases h with
    | cons _ q _ => exact ⟨p, q⟩
theorem LS.three {es : Ev.Es} {a b d : Expr} (h : LS X gl call XR W es [a, b, d]) : plainE a = true ∧ plainE b = true ∧ plainE d = true := by
  cases h with
  | cons _ p h => cases h with
    | cons _ q h => cases h with
      | cons _ r _ => exact ⟨p, q, r⟩
end
mutual
theorem soundS : ∀ (s : Ev.S) (st : Stmt) {c : Cc} {X : Cx} {gl : Nat → Option D} {call : Nat → List D → R D} {XR : XRel} {W : WX} {fuel : Nat} {ok : Nat → Bool}, Okc c X gl call XR W → chkS c s st = true → PS X st (tS X.K gl call XR W fuel ok s)
  | .set tg e, st, c, X, gl, call, XR, W, fuel, ok, O, h => by
    simp only [chkS] at h
    split at h
    · rename_i te ex pos
      simp only [Bool.and_eq_true] at h
      obtain ⟨⟨⟨h1, h2⟩, h3⟩, h4⟩ := h
      split at h4
      · rename_i ee gs sc pv
        split at h4
        · rename_i x px
          by_cases hs : c.lcSwap x px sc pv = true
          · rw [if_pos hs] at h4
            split at h4
            · rename_i i elt tg' it cond has own
              obtain ⟨te, ie, ifs, rfl, ho, hi, bk, hg, ht, he, hn⟩ := soundC O h1
              simp only [chkG] at h2
              have ⟨l1, l2, l3⟩ := loc_of O h2
              have hl : X.env.scope.names.lookup x = some .local := by
                rw [O.sc]
                unfold Cc.lcSwap at hs
                simp only [Bool.and_eq_true] at hs
                exact nk_loc hs.1.1
              exact s_setLc O.calm (by rw [O.N]; exact O.nd) ho l1 hl ((lcSwap_eq O).trans (by rw [hs])) hi bk hg ht he hn
            · cases h4
          · have hs' : c.lcSwap x px sc pv = false := by simpa using hs
            exact s_setG (soundE e _ O h1).1 (soundG tg _ O h2) ((show swapsWithSole [.Name x px] (.ListComp ee gs sc pv) pos.line X.env = swapsWith (.ListComp ee gs sc pv) (some (.Name x px)) pos.line X.env from rfl).trans ((lcSwap_eq O).trans (by rw [hs']))) h3 rfl
        · cases h4
      · rw [Bool.and_eq_true] at h4
        exact s_setG (soundE e _ O h1).1 (soundG tg _ O h2) (swS_false h4.1) h3 (swNone_of O h4.2)
    · cases h
  | .par is es, st, c, X, gl, call, XR, W, fuel, ok, O, h => by
    simp only [chkS] at h
    split at h
    · rename_i x px y py kt pt a b k2 p2 pos
      rw [Bool.and_eq_true] at h
      obtain ⟨h1, h2⟩ := h
      split at h2
      · rename_i i j
        simp only [Bool.and_eq_true, Bool.not_eq_true'] at h2
        obtain ⟨⟨⟨⟨⟨⟨⟨⟨a1, a2⟩, a3⟩, a4⟩, a5⟩, a6⟩, a7⟩, a8⟩, a9⟩ := h2
        have L := soundEs es _ O h1
        have ⟨l1, _, _⟩ := loc_of O a1
        have ⟨l2, _, _⟩ := loc_of O a2
        exact s_parS O.calm (by rw [O.N]; exact O.nd) l1 l2 (by simpa using a9) (by rw [O.sc]; exact nk_loc a3) (by rw [O.sc]; exact nk_loc a4) L.pe (sw_two O a3 a4 a5 (of_decide_eq_false a6) L.two.1 L.two.2 a7 a8)
      · cases h2
    · rename_i x px y py z pz kt pt a b d k2 p2 pos
      rw [Bool.and_eq_true] at h
      obtain ⟨h1, h2⟩ := h
      split at h2
      · rename_i i j l
        simp only [Bool.and_eq_true, Bool.not_eq_true'] at h2
        obtain ⟨⟨⟨⟨⟨⟨⟨⟨⟨⟨⟨⟨⟨⟨⟨a1, a2⟩, a2'⟩, a3⟩, a4⟩, a4'⟩, a5⟩, a5'⟩, a6⟩, a6'⟩, a6''⟩, a7⟩, a8⟩, a9⟩, a9'⟩, a9''⟩ := h2
        have L := soundEs es _ O h1
        have ⟨l1, _, _⟩ := loc_of O a1
        have ⟨l2, _, _⟩ := loc_of O a2
        have ⟨l3, _, _⟩ := loc_of O a2'
        exact s_parS3 O.calm (by rw [O.N]; exact O.nd) l1 l2 l3 (by simpa using a9) (by simpa using a9') (by simpa using a9'') (by rw [O.sc]; exact nk_loc a3) (by rw [O.sc]; exact nk_loc a4) (by rw [O.sc]; exact nk_loc a4') L.pe
          (sw_three O a3 a4 a4' a5 a5' (of_decide_eq_false a6) (of_decide_eq_false a6') (of_decide_eq_false a6'') L.three.1 L.three.2.1 L.three.2.2 a7 a8)
      · cases h2
    · cases h
  | .put p e, st, c, X, gl, call, XR, W, fuel, ok, O, h => by
    simp only [chkS] at h
    split at h
    · simp only [Bool.and_eq_true] at h
      obtain ⟨⟨⟨h1, h2⟩, h3⟩, h4⟩ := h
      split at h1
      · simp only [chkP] at h3
        split at h3
        · simp only [Bool.and_eq_true] at h3
          exact s_putS (soundE e _ O h2).1 (soundP _ _ O h3.1.1.1) (soundE _ _ O h3.1.1.2).1 h3.1.2 h3.2 h4
        · cases h3
      · cases h1
    · cases h
  | .putr x i e, st, c, X, gl, call, XR, W, fuel, ok, O, h => by
    simp only [chkS] at h
    split at h
    · simp only [Bool.and_eq_true] at h
      obtain ⟨⟨⟨⟨h1, h2⟩, h3⟩, h4⟩, h5⟩ := h
      obtain ⟨a, b, d, f⟩ := vis_of O h1
      exact s_putrS a b d f (soundE e _ O h2).1 (soundE i _ O h3).1 h4 h5
    · cases h
  | .aug i o e, st, c, X, gl, call, XR, W, fuel, ok, O, h => by
    simp only [chkS] at h
    split at h
    · simp only [Bool.and_eq_true] at h
      obtain ⟨⟨h1, h2⟩, h3⟩ := h
      obtain ⟨a, b, d⟩ := loc_of O h1
      refine s_augS ?_ (by rw [O.N]; exact O.nd) a b d (soundE e _ O h2).1
      split at h3
      · exact .inl ⟨rfl, rfl⟩
      · exact .inr ⟨rfl, rfl⟩
      · cases h3
    · cases h
  | .augp _ _ _, st, c, X, gl, call, XR, W, fuel, ok, O, h => by simp [chkS] at h
  | .ex e, st, c, X, gl, call, XR, W, fuel, ok, O, h => by
    simp only [chkS] at h
    split at h
    · rw [Bool.and_eq_true] at h
      exact s_exS (soundE e _ O h.1).1 h.2
    · cases h
  | .ret e, st, c, X, gl, call, XR, W, fuel, ok, O, h => by
    simp only [chkS] at h
    split at h
    · exact s_retS (soundE e _ O h).1
    · cases h
  | .ret0, st, c, X, gl, call, XR, W, fuel, ok, O, h => by
    simp only [chkS] at h
    split at h
    · exact s_ret0S
    · cases h
  | .ite t a b, st, c, X, gl, call, XR, W, fuel, ok, O, h => by
    simp only [chkS] at h
    split at h
    · simp only [Bool.and_eq_true] at h
      exact s_iteS ((soundE t _ O h.1.1.2).1.t h.1.1.1) (soundSs a _ O h.1.2) (soundSs b _ O h.2)
    · cases h
  | .loop tg it b, st, c, X, gl, call, XR, W, fuel, ok, O, h => by
    simp only [chkS] at h
    split at h
    · simp only [Bool.and_eq_true] at h
      exact s_forS O.ps O.calm (soundI it _ _ O h.1.1.2) (fun fz => soundG tg _ O h.1.1.1) (fun fz => soundSs b _ O h.2) h.1.2
    · cases h
  | .whl t b, st, c, X, gl, call, XR, W, fuel, ok, O, h => by
    simp only [chkS] at h
    split at h
    · simp only [Bool.and_eq_true] at h
      exact s_whlS O.ps ((soundE t _ O h.1.2).1.t h.1.1) (soundSs b _ O h.2)
    · cases h
  | .brk, st, c, X, gl, call, XR, W, fuel, ok, O, h => by
    simp only [chkS] at h
    split at h
    · exact s_brkS
    · cases h
  | .cnt, st, c, X, gl, call, XR, W, fuel, ok, O, h => by
    simp only [chkS] at h
    split at h
    · exact s_cntS
    · cases h
  | .pass, st, c, X, gl, call, XR, W, fuel, ok, O, h => by
    simp only [chkS] at h
    split at h
    · exact s_passS
    · cases h
theorem soundSs : ∀ (ss : Ev.Ss) (sts : List Stmt) {c : Cc} {X : Cx} {gl : Nat → Option D} {call : Nat → List D → R D} {XR : XRel} {W : WX} {fuel : Nat} {ok : Nat → Bool}, Okc c X gl call XR W → chkSs c ss sts = true → PSs X sts (tSs X.K gl call XR W fuel ok ss)
  | .nil, sts, c, X, gl, call, XR, W, fuel, ok, O, h => by
    simp only [chkSs] at h
    split at h
    · exact s_nilS
    · cases h
  | .cons s ss, sts, c, X, gl, call, XR, W, fuel, ok, O, h => by
    simp only [chkSs] at h
    split at h
    · rw [Bool.and_eq_true] at h
      exact s_consS (soundS s _ O h.1) (soundSs ss _ O h.2)
    · cases h
end
end Ev
end

section
set_option Elab.async false
set_option linter.all false
set_option maxRecDepth 100000
/-! EvC4: the whole text. -/
namespace Ev
open PySem L2 PyProof.Rows
/-! ### the end of a def -/
def finA : List A → List A → List A := List.zipWith fun a x => if a.er.imm = true then a else x
theorem finA_er : ∀ αs α' : List A, erL (finA αs α') = fin (erL αs) (erL α')
  | [], _ => rfl
  | _ :: _, [] => rfl
  | a :: αs, x :: α' => by
    have ih := finA_er αs α'
    show (if a.er.imm = true then a else x).er :: erL (finA αs α') = (if a.er.imm = true then a.er else x.er) :: fin (erL αs) (erL α')
    rw [ih]
    by_cases h : a.er.imm = true
    · rw [if_pos h, if_pos h]
    · rw [if_neg h, if_neg h]
theorem finA_foot : ∀ αs α' : List A, ∃ l, (footL α').Perm (footL (finA αs α') ++ l)
  | [], α' => ⟨footL α', by simp [finA, footL]⟩
  | _ :: _, [] => ⟨[], by simp [finA, footL]⟩
  | a :: αs, x :: α' => by
    obtain ⟨l, p⟩ := finA_foot αs α'
    have e : finA (a :: αs) (x :: α') = (if a.er.imm = true then a else x) :: finA αs α' := rfl
    rw [e]
    by_cases h : a.er.imm = true
    · rw [if_pos h]
      refine ⟨x.foot ++ l, ?_⟩
      rw [footL, footL, imm_foot a h, List.nil_append, ← List.append_assoc]
      refine (List.Perm.append_left _ p).trans ?_
      rw [← List.append_assoc]
      exact List.Perm.append_right _ List.perm_append_comm
    · rw [if_neg h]
      refine ⟨l, ?_⟩
      rw [footL, footL, List.append_assoc]
      exact List.Perm.append_left _ p
theorem finA_ok {K : PySem.W.Frag} {H : Hp} : ∀ αs α' : List A, (∀ a ∈ αs, a.er.imm = true → a.ok K H) → okL K H α' → okL K H (finA αs α')
  | [], _, _, _ => trivial
  | _ :: _, [], _, _ => trivial
  | a :: αs, x :: α', h, o => by
    have ih := finA_ok αs α' (fun a m => h a (List.mem_cons_of_mem _ m)) o.2
    refine ⟨?_, ih⟩
    by_cases hi : a.er.imm = true
    · simp only [hi, if_true]; exact h a List.mem_cons_self hi
    · simp only [hi]; exact o.1
theorem finA_bk : ∀ (αs α' : List A) (σ : L2.St), αs.length ≤ α'.length → (∀ (i : Nat) (a : A), αs[i]? = some a → a.er.imm = false → σ[i]? = some (some a.val)) → Mt σ α' → Bk (αs.map A.val) (finA αs α')
  | [], _, _, _, _, _ => .nil
  | _ :: _, [], _, h, _, _ => by simp at h
  | a :: αs, x :: α', σ, h, k, m => by
    cases σ with
    | nil => have := m.len; simp at this
    | cons s σ =>
      refine .cons ?_ (finA_bk αs α' σ (by simpa using h) (fun i b e1 e2 => k (i + 1) b e1 e2) ⟨by have := m.len; simpa using this, fun i b e => m.at_ (i + 1) b e⟩)
      show (if a.er.imm = true then a else x) = A.no ∨ (if a.er.imm = true then a else x).val = a.val
      by_cases hi : a.er.imm = true
      · rw [if_pos hi]; exact .inr rfl
      · rw [if_neg hi]
        have h1 := k 0 a rfl (by simpa using hi)
        rcases m.at_ 0 x rfl with q | q
        · exact .inl q
        · rw [h1] at q
          exact .inr (by simpa using q.symm)
/-- the facts of a text -/
structure Text where
  pg : Pg
  fns : List Str
  nss : List (List Str)
  gls : List Str
  tops : List Str
  kbs : List (Nat × List Str × List Nat)
  st : Nat → Stmt
def Text.cc (T : Text) (i : Nat) : Cc := ⟨T.nss.getD i [], (defScope (T.st i)).names, (defScope (T.st i)).kind, (defScope (T.st i)).names, T.fns, T.gls, T.tops, T.kbs⟩
def Text.ps (T : Text) (i : Nat) : List Str := (T.nss.getD i []).take ((T.pg.defs[i]?.map (·.ps)).getD 0)
/-- one def is as the compact code says -/
def Text.chk (T : Text) (i : Nat) : Bool := match T.pg.defs[i]? with
  | some df => chkSs (T.cc i) df.body (defBody (T.st i)) && decide (df.ns = (T.nss.getD i []).length) && decide (df.ps ≤ df.ns)
  | none => false
structure Facts (T : Text) (P : Program) (w : World) (K : PySem.W.Frag) (mg : Str → Option Value) : Prop where
  fns : ∀ (i : Nat) (x : Str), T.fns[i]? = some x → ∃ a fd, mg x = some (.ref a) ∧ Fun K x x (T.st i) a fd ∧ (∀ us : List Value, us.length = (T.ps i).length → bindArgs fd ⟨us, []⟩ = pure ((T.ps i).zip us)) ∧
    ∀ ks is, (i, ks, is) ∈ T.kbs → ∀ (ws : List Value), ws.length = ks.length → bindArgs fd ⟨[], ks.zip ws⟩ = pure ((T.ps i).zip (reord 0 is ws))
  sc : ∀ (i : Nat) (x : Str), T.fns[i]? = some x → FnScope (T.nss.getD i []) (T.ps i) (defScope (T.st i))
  ck : ∀ (i : Nat) (x : Str), T.fns[i]? = some x → T.chk i = true
  tops : ∀ x, (T.tops.any fun y => decide (y = x)) = true → mg x = none
  gls : ∀ (g : Nat) (x : Str), T.gls[g]? = some x → ∃ (a : A) (u : Value), mg x = some u ∧ RelV a.val u ∧ (∀ H, a.ok K H) ∧ a.er.imm = true ∧ T.pg.glb[g]? = some a.er
theorem spC_len {K : PySem.W.Frag} {XR : XRel} {pg : Pg} {fuel n f : Nat} {vs : List V} {H : Hp} {Q : VK} {E : XK} (h : spC K XR (run pg fuel n) f vs H Q E) : ∃ df, pg.defs[f]? = some df ∧ vs.length = df.ps := by
  obtain ⟨αs, rfl, g, s⟩ := h
  cases n with
  | zero => exact s.elim
  | succ n =>
    obtain ⟨df, e, s⟩ := sat_opt.mp s
    refine ⟨df, e, ?_⟩
    split at s
    · rename_i h; rw [List.length_map, ← erL_length, h.1]
    · exact s.elim
theorem footL_no (n : Nat) : footL (List.replicate n A.no) = [] := by
  induction n with
  | zero => rfl
  | succ n ih => rw [List.replicate_succ, footL, ih]; rfl
theorem erL_no (n : Nat) : erL (List.replicate n A.no) = List.replicate n D.no := by rw [erL_map, List.map_replicate]; rfl
theorem sat_fin {K : PySem.W.Frag} {XR : XRel} {αs : List A} {H : Hp} {Q : VK} {E : XK} {N : List Str} {σ0 : L2.St} {n : Nat} {o : O} (g : Good K H αs) (m0 : Mt (L2.start N (αs.map A.val)) (αs ++ List.replicate n A.no)) (hσ : σ0 = L2.start N (αs.map A.val))
    (s : (o.fin (erL αs)).sat (fun d ds => ∀ x αs' H', x.er = d → erL αs' = ds → Bk (αs.map A.val) αs' → Stp K (wrL αs) αs H (x :: αs') H' → Q x.val H')
      (fun ex ds => ∀ cls dd αs' H', XR ex cls dd H' → erL αs' = ds → Bk (αs.map A.val) αs' → Stp K (wrL αs) αs H αs' H' → E cls dd H')) :
    O.sat K XR (fun cls d _ H => E cls d H) (okP (erL αs)) σ0 (αs ++ List.replicate n A.no) H { nx := fun _ H' => Q .non H', rt := Q } o := by
  subst hσ
  have ef : footL (αs ++ List.replicate n A.no) = footL αs := by rw [footL_append, footL_no, List.append_nil]
  have ew : wrL (αs ++ List.replicate n A.no) = wrL αs := by unfold wrL; rw [ef]
  -- what comes back
  have back : ∀ {Δ : List A} {σ' : L2.St} {α' : List A} {H' : Hp}, Mt σ' α' → KeepS (okP (erL αs)) (L2.start N (αs.map A.val)) σ' → Stp K (wrL (αs ++ List.replicate n A.no)) (αs ++ List.replicate n A.no) H (Δ ++ α') H' →
      Bk (αs.map A.val) (finA αs α') ∧ Stp K (wrL αs) αs H (Δ ++ finA αs α') H' := by
    intro Δ σ' α' H' m k st
    rw [ew] at st
    have st' : Stp K (wrL αs) αs H (Δ ++ α') H' := ⟨st.good, st.fr, fun p mp => by have := st.ft p mp; rw [ef] at this; exact this⟩
    refine ⟨finA_bk αs α' σ' ?_ (fun i a e1 e2 => ?_) m, st'.sub (okL_append.mpr ⟨(okL_append.mp st'.good.ok).1, finA_ok αs α' (fun a ma hi => ?_) (okL_append.mp st'.good.ok).2⟩) ?_⟩
    · have h1 := m.len
      rw [k.1, m0.len, List.length_append] at h1
      omega
    · rw [k.2 i (by unfold okP; rw [erL_map, List.getElem?_map, e1]; exact e2)]
      have hl : i < αs.length := (List.getElem?_eq_some_iff.mp e1).1
      unfold L2.start
      rw [List.getElem?_append_left (by simpa using hl), List.getElem?_map, List.getElem?_map, e1]; rfl
    · exact ok_fr st'.fr g.wr a (okL_iff.mp g.ok a ma) (by rw [imm_foot a hi]; simp)
    · obtain ⟨l, p⟩ := finA_foot αs α'
      refine ⟨l, ?_⟩
      rw [footL_append, footL_append, List.append_assoc]
      exact List.Perm.append_left _ p
  cases o with
  | nx ρ =>
    intro σ' α' H' e go
    subst e
    obtain ⟨b, st⟩ := back (Δ := []) go.m go.kp go.st
    exact s .non (finA αs α') H' rfl (finA_er αs α') b (st.imm (w := .non) trivial rfl)
  | bk ρ => exact s.elim
  | ct ρ => exact s.elim
  | rt d ρ =>
    intro x σ' α' H' e1 e m k st
    subst e
    obtain ⟨b, st⟩ := back (Δ := [x]) m k st
    exact s x (finA αs α') H' e1 (finA_er αs α') b st
  | rz x ρ =>
    intro cls dd σ' α' H' xr e go
    subst e
    obtain ⟨b, st⟩ := back (Δ := []) go.m go.kp go.st
    exact s cls dd (finA αs α') H' xr (finA_er αs α') b st
  | st => exact s.elim
theorem okc_fn {T : Text} {P : Program} {w : World} {K : PySem.W.Frag} {mg : Str → Option Value} {base : Heap} {XR : XRel} {fuel n i : Nat} {x : Str} (F : Facts T P w K mg) (hi : T.fns[i]? = some x)
    (ih : ∀ (j : Nat) (y : Str) (a : Addr) (fd : FuncData), T.fns[j]? = some y → mg y = some (.ref a) → Fun K y y (T.st j) a fd → FnOk P w K mg base (L2.CX P w) n a fd (T.ps j) (spC K XR (run T.pg fuel n) j))
    {f : Addr} {cdv : Value} {A : Around} {outer : List PySem.Env} {s : Shared} {H : Hp} {E : XK} (hr : Room n (A.deeper (envOfC x (defScope (T.st i)) s.heap.objs.size f cdv))) :
    Okc (T.cc i) (cxOf (L2.CX P w) P w K mg base (T.nss.getD i []) x (defScope (T.st i)) f cdv A outer s H E) (fun g => T.pg.glb[g]?) (run T.pg fuel n) XR (fun cls d _ H => E cls d H) where
  N := rfl
  nd := (F.sc i x hi).nd
  sc := rfl
  kind := rfl
  kf := (F.sc i x hi).kind
  fnc := fun _ _ => rfl
  calm := rfl
  units := hr.units
  tk := takes_of rfl rfl rfl rfl
  ps := passes_of rfl
  tops := F.tops
  fns := fun j y hj => by
    obtain ⟨a, fd, h1, h2, h3, _⟩ := F.fns j y hj
    exact ⟨n, a, fd, T.ps j, h1, h2.kp, .all h3, ih j y a fd hj h1 h2, hr⟩
  kbs := fun j y ks is hj hk => by
    obtain ⟨a, fd, h1, h2, h3, h4⟩ := F.fns j y hj
    exact ⟨n, a, fd, T.ps j, h1, h2.kp, fun s ws _ hl => .of_eq (h4 ks is hk ws hl), ih j y a fd hj h1 h2, hr⟩
  gls := F.gls
theorem prog_ok {T : Text} {P : Program} {w : World} {K : PySem.W.Frag} {mg : Str → Option Value} {base : Heap} {XR : XRel} {fuel : Nat} (F : Facts T P w K mg) :
    ∀ (n : Nat) (i : Nat) (x : Str) (a : Addr) (fd : FuncData), T.fns[i]? = some x → mg x = some (.ref a) → Fun K x x (T.st i) a fd → FnOk P w K mg base (L2.CX P w) n a fd (T.ps i) (spC K XR (run T.pg fuel n) i)
  | 0, i, x, a, fd, hi, hm, hf => ⟨fun vs H Q E h => by obtain ⟨_, _, _, h⟩ := h; exact h.elim, fun A outer s H args us vs Q E _ _ _ _ h => by obtain ⟨_, _, _, h⟩ := h; exact h.elim⟩
  | n + 1, i, x, a, fd, hi, hm, hf => by
    have ih := prog_ok (base := base) (XR := XR) (fuel := fuel) F n
    have ck := F.ck i x hi
    have S := F.sc i x hi
    unfold Text.chk at ck
    split at ck
    · rename_i df hdf
      simp only [Bool.and_eq_true] at ck
      obtain ⟨⟨ck, hns⟩, hps⟩ := ck
      have hns := of_decide_eq_true hns
      have hps := of_decide_eq_true hps
      have eps : (T.ps i).length = df.ps := by
        unfold Text.ps
        rw [hdf, List.length_take]
        show min df.ps _ = df.ps
        omega
      refine hf.okX S (fun vs H Q E h => ?_) fun cdv Ar outer s H vs Q E hr hsp => ?_
      · obtain ⟨df', e, hl⟩ := spC_len h
        rw [hdf] at e
        cases e
        rw [hl, eps]
      · obtain ⟨αs, rfl, g, s0⟩ := hsp
        obtain ⟨df', e, s1⟩ := sat_opt.mp s0
        rw [hdf] at e
        cases e
        split at s1
        · rename_i hl
          have hlA : αs.length = df.ps := by rw [← erL_length, hl.1]
          refine ⟨_, soundSs (fuel := fuel) (ok := okP (erL αs)) df.body _ (okc_fn F hi ih hr) ck, ?_⟩
          have em : erL (αs ++ List.replicate (df.ns - df.ps) A.no) = erL αs ++ List.replicate (df.ns - df.ps) D.no := by rw [erL_append, erL_no]
          have m0 : Mt (L2.start (T.nss.getD i []) (αs.map A.val)) (αs ++ List.replicate (df.ns - df.ps) A.no) := by
            refine ⟨by unfold L2.start; simp only [List.length_append, List.length_map, List.length_replicate]; omega, fun j z hz => ?_⟩
            by_cases hj : j < αs.length
            · rw [List.getElem?_append_left hj] at hz
              refine .inr ?_
              unfold L2.start
              rw [List.getElem?_append_left (by simpa using hj), List.getElem?_map, List.getElem?_map, hz]; rfl
            · rw [List.getElem?_append_right (by omega)] at hz
              have := List.mem_of_getElem? hz
              exact .inl (List.eq_of_mem_replicate this)
          refine ⟨αs ++ List.replicate (df.ns - df.ps) A.no, m0, ⟨okL_append.mpr ⟨g.ok, okL_iff.mpr fun y my => by rw [List.eq_of_mem_replicate my]; trivial⟩, by rw [footL_append, footL_no, List.append_nil]; exact g.nd⟩, ?_⟩
          rw [← em] at s1
          exact sat_fin g m0 rfl s1
        · exact s1.elim
    · cases ck
end Ev
end

section
set_option Elab.async false
set_option linter.all false
set_option maxRecDepth 100000
/-! EvC5: the law's head. -/
namespace Ev
open PySem L2 PyProof.Rows
theorem cx_none {P : Program} {w : World} {H : Hp} {s : Shared} {e : Value} {s' : Shared} (h : L2.CX P w [] H s (fun _ _ _ => False) e s') : False := by
  unfold L2.CX at h
  obtain ⟨_, _, _, _, _, _, _, _, _, _, _, _, h⟩ := h
  exact h
/-- the law of a text by its evaluator -/
theorem law_walk {l : PySem.W.OpenLaw} {q : Program} {loose : List Str} {XP : (Str → Option Value) → Heap → Prop} {YP : World → Heap → Prop} {d : DefRec} {K : Params → PySem.W.Frag} {x : Str} (T : Text) (fuel n il m : Nat)
    (hn : l.most = some m) (hm : m ≤ sizeLine) (hdf : d.params.defaults = []) (hr : Room n callerA) (hil : T.fns[il]? = some d.name) (hps : T.ps il = [x])
    (hY : ∀ (w : World) (h : Heap), YP w h → (K w.params).In h)
    (F : ∀ (w : World) (mg : Str → Option Value) (fa : Addr) (h : Heap), (K w.params).In h → h.Ns mainGlobals mg → mg d.name = some (.ref fa) → Facts T l.prog w (K w.params) mg)
    (law : ∀ (k : Bool) (ns : List Int), ns.length ≤ m → ∃ ds, run T.pg fuel n il [.rol k (ns.map D.int)] = .ok (.bl true) ds) :
    PySem.W.WalkO q loose XP YP l.row.toRowW d [] (fun f vs => PySem.call f vs) := by
  refine L2.walk_of (n := m) (k := n) (x := x) (CX := fun w => L2.CX l.prog w) (sp := fun w => spC (K w.params) (fun _ _ _ _ => False) (run T.pg fuel n) il) hn hm hdf hr hY (fun w mg fa h KX G hmg => ?_) (fun w H a ns hl _ hS => ?_) fun _ _ _ _ _ z => cx_none z
  · have FF := F w mg fa h KX G hmg
    obtain ⟨a, fd, h1, h2, h3, _⟩ := FF.fns il d.name hil
    have e := hmg.symm.trans h1
    cases e
    refine ⟨fd, fun s u => .of_eq ?_, fun base _ _ => ?_⟩
    · have := h3 [u] (by rw [hps]; rfl)
      rw [hps] at this
      exact this
    · have := prog_ok (base := base) (XR := fun _ _ _ _ => False) (fuel := fuel) FF n il d.name fa fd hil hmg h2
      rw [hps] at this
      exact this
  · have im : ∀ ns : List Int, D.immL (erL (ns.map A.int)) = true := fun ns => by
      rw [immL_iff, erL_map]
      intro z hz
      simp only [List.map_map, List.mem_map] at hz
      obtain ⟨i, _, rfl⟩ := hz
      rfl
    have ev : (ns.map A.int).map A.val = ns.map V.int := by rw [List.map_map]; rfl
    have ee : erL (ns.map A.int) = ns.map D.int := by rw [erL_map, List.map_map]; rfl
    have ln : (ns.map A.int).length ≤ line := by rw [List.length_map, line_eq]; exact Nat.le_trans hl hm
    have ok0 : okL (K w.params) H (ns.map A.int) := okL_iff.mpr fun y my => by
      obtain ⟨i, _, rfl⟩ := List.mem_map.mp my
      trivial
    rcases hS with hS | hS
    · refine ⟨[.rol a (ns.map A.int)], rfl, ⟨⟨⟨by rw [ev]; exact hS, ln, ok0, im ns⟩, trivial⟩, by simp [footL, A.foot]⟩, ?_⟩
      obtain ⟨ds, e⟩ := law false ns hl
      have e' : run T.pg fuel n il (erL [.rol a (ns.map A.int)]) = .ok (.bl true) ds := by rw [← e]; simp only [erL, A.er, ee]
      show (run T.pg fuel n il (erL [.rol a (ns.map A.int)])).sat _ _
      rw [e']
      intro y αs' H' e1 _ _ _
      rw [er_bl e1]; rfl
    · refine ⟨[.kol a (ns.map A.int)], rfl, ⟨⟨⟨by rw [ev]; exact .inl hS, ln, ok0, im ns⟩, trivial⟩, by simp [footL, A.foot]⟩, ?_⟩
      obtain ⟨ds, e⟩ := law true ns hl
      have e' : run T.pg fuel n il (erL [.kol a (ns.map A.int)]) = .ok (.bl true) ds := by rw [← e]; simp only [erL, A.er, ee]
      show (run T.pg fuel n il (erL [.kol a (ns.map A.int)])).sat _ _
      rw [e']
      intro y αs' H' e1 _ _ _
      rw [er_bl e1]; rfl
/-- what the head's fragment tells of a def -/
def DefFact (T : Text) (K : PySem.W.Frag) (i : Nat) (x : Str) : Prop := ∃ (f : Addr) (oc : Value) (od an : Option Addr) (sl : Array (Option Value)) (kV dc pm cd ct : Value),
  PySem.W.nsIn K mainGlobals x = some (some (.ref f)) ∧ K.lookup f = some ⟨oc, od, .func (PySem.W.fnOf x x (defArgs (T.st i)) (defBody (T.st i)) (defScope (T.st i)) .none kV dc pm an cd ct), sl⟩ ∧ PySem.W.codeIn K cd x = true ∧ PySem.W.keepIn K (.ref f) = true
theorem DefFact.mk {T : Text} {K : PySem.W.Frag} {i : Nat} {x : Str} {f : Addr} {oc : Value} {od an : Option Addr} {sl : Array (Option Value)} {kV dc pm cd ct : Value}
    (h1 : PySem.W.nsIn K mainGlobals x = some (some (.ref f))) (h2 : K.lookup f = some ⟨oc, od, .func (PySem.W.fnOf x x (defArgs (T.st i)) (defBody (T.st i)) (defScope (T.st i)) .none kV dc pm an cd ct), sl⟩) (h3 : PySem.W.codeIn K cd x = true) (h4 : PySem.W.keepIn K (.ref f) = true) : DefFact T K i x :=
  ⟨f, oc, od, an, sl, kV, dc, pm, cd, ct, h1, h2, h3, h4⟩
/-- how a def binds -/
def BindFact (T : Text) (i : Nat) (x : Str) : Prop := ∀ (kV dc pm cd ct : Value) (an : Option Addr) (us : List Value), us.length = (T.ps i).length → bindArgs (PySem.W.fnOf x x (defArgs (T.st i)) (defBody (T.st i)) (defScope (T.st i)) .none kV dc pm an cd ct) ⟨us, []⟩ = pure ((T.ps i).zip us)
/-- .. by keywords -/
def KbFact (T : Text) (q : Nat × List Str × List Nat) : Prop := ∀ x, T.fns[q.1]? = some x → ∀ (kV dc pm cd ct : Value) (an : Option Addr) (ws : List Value), ws.length = q.2.1.length →
  bindArgs (PySem.W.fnOf x x (defArgs (T.st q.1)) (defBody (T.st q.1)) (defScope (T.st q.1)) .none kV dc pm an cd ct) ⟨[], q.2.1.zip ws⟩ = pure ((T.ps q.1).zip (reord 0 q.2.2 ws))
def ScFact (T : Text) (i : Nat) (_ : Str) : Prop := FnScope (T.nss.getD i []) (T.ps i) (defScope (T.st i))
def CkFact (T : Text) (i : Nat) (_ : Str) : Prop := T.chk i = true
def GlFact (T : Text) (K : PySem.W.Frag) (g : Nat) (x : Str) : Prop := ∃ (a : A) (u : Value), PySem.W.nsIn K mainGlobals x = some (some u) ∧ RelV a.val u ∧ (∀ H, a.ok K H) ∧ a.er.imm = true ∧ T.pg.glb[g]? = some a.er
theorem facts_mk {T : Text} {P : Program} {w : World} {K : PySem.W.Frag} {h : Heap} {mg : Str → Option Value} (X : K.In h) (G : h.Ns mainGlobals mg)
    (df : ∀ (i : Nat) (x : Str), T.fns[i]? = some x → DefFact T K i x) (bf : ∀ (i : Nat) (x : Str), T.fns[i]? = some x → BindFact T i x) (kb : ∀ q ∈ T.kbs, KbFact T q)
    (sc : ∀ (i : Nat) (x : Str), T.fns[i]? = some x → ScFact T i x) (ck : ∀ (i : Nat) (x : Str), T.fns[i]? = some x → CkFact T i x)
    (tops : ∀ x ∈ T.tops, PySem.W.nsIn K mainGlobals x = some none)
    (gls : ∀ (g : Nat) (x : Str), T.gls[g]? = some x → GlFact T K g x) : Facts T P w K mg where
  fns := fun i x hi => by
    obtain ⟨f, oc, od, an, sl, kV, dc, pm, cd, ct, h1, h2, h3, h4⟩ := df i x hi
    exact ⟨f, _, PySem.W.mg_of X G h1, fun_mk h2 h3 h4, fun us hu => bf i x hi kV dc pm cd ct an us hu, fun ks is hm ws hw => kb (i, ks, is) hm x hi kV dc pm cd ct an ws hw⟩
  sc := sc
  ck := ck
  tops := fun x hx => by
    obtain ⟨y, my, e⟩ := List.any_eq_true.mp hx
    have e := of_decide_eq_true e
    subst e
    exact PySem.W.mg_none_of X G (tops y my)
  gls := fun g x hg => by
    obtain ⟨a, u, h1, h2, h3, h4, h5⟩ := gls g x hg
    exact ⟨a, u, PySem.W.mg_of X G h1, h2, h3, h4, h5⟩
/-- over a list's places -/
theorem each {α : Type} {Pr : Nat → α → Prop} : ∀ (l : List α) (k : Nat), (∀ (i : Nat) (x : α), l[i]? = some x → Pr (k + i) x) ↔ (match l with | [] => True | y :: r => Pr k y ∧ ∀ (i : Nat) (x : α), r[i]? = some x → Pr (k + 1 + i) x)
  | [], k => by simp
  | y :: r, k => by
    constructor
    · intro h
      refine ⟨h 0 y rfl, fun i x e => ?_⟩
      have := h (i + 1) x e
      rwa [show k + 1 + i = k + (i + 1) by omega]
    · rintro ⟨h1, h2⟩ i x e
      cases i with
      | zero => cases e; exact h1
      | succ i =>
        have := h2 i x e
        rwa [show k + (i + 1) = k + 1 + i by omega]
theorem each_nil {α : Type} {Pr : Nat → α → Prop} {k : Nat} : ∀ (i : Nat) (x : α), ([] : List α)[i]? = some x → Pr (k + i) x := fun i x h => by simp at h
theorem each_cons {α : Type} {Pr : Nat → α → Prop} {k : Nat} {y : α} {r : List α} (h1 : Pr k y) (h2 : ∀ (i : Nat) (x : α), r[i]? = some x → Pr (k + 1 + i) x) : ∀ (i : Nat) (x : α), (y :: r)[i]? = some x → Pr (k + i) x := (each (y :: r) k).mpr ⟨h1, h2⟩
theorem each_0 {α : Type} {Pr : Nat → α → Prop} {l : List α} (h : ∀ (i : Nat) (x : α), l[i]? = some x → Pr (0 + i) x) : ∀ (i : Nat) (x : α), l[i]? = some x → Pr i x := fun i x e => by have := h i x e; rwa [Nat.zero_add] at this
end Ev
end

section
set_option linter.all false
set_option maxRecDepth 100000
/-! EvM: reasoning about runs of the evaluator. -/
namespace Ev
theorem compL_eq {turn : D → Env → R (Option D)} {ρ : Env} {f : D → Option D} : ∀ (ds : List D), (∀ d ∈ ds, turn d ρ = .ok (f d) ρ) → compL turn ds ρ = .ok (ds.filterMap f) ρ
  | [], _ => rfl
  | d :: ds, h => by
    rw [compL, h d List.mem_cons_self]
    simp only [compL_eq ds fun x m => h x (List.mem_cons_of_mem _ m)]
    rw [List.filterMap_cons]
    cases f d <;> rfl
/-- a comprehension whose turns keep a word -/
theorem compL_inv {turn : D → Env → R (Option D)} (P : Nat → List D → Env → Prop) : ∀ (ds : List D) (ρ : Env) (i : Nat) (acc : List D), P i acc ρ →
    (∀ j d acc ρ, ds[j]? = some d → P (i + j) acc ρ → ∃ o ρ', turn d ρ = .ok o ρ' ∧ P (i + j + 1) (acc ++ o.toList) ρ') →
    ∃ xs ρ', compL turn ds ρ = .ok xs ρ' ∧ P (i + ds.length) (acc ++ xs) ρ'
  | [], ρ, i, acc, h0, _ => ⟨[], ρ, rfl, by simpa using h0⟩
  | d :: ds, ρ, i, acc, h0, h => by
    obtain ⟨o, ρ1, e1, p1⟩ := h 0 d acc ρ rfl h0
    obtain ⟨xs, ρ2, e2, p2⟩ := compL_inv P ds ρ1 (i + 1) _ p1 fun j d' acc' ρ' hj hp => by
      have := h (j + 1) d' acc' ρ' hj (by rwa [show i + (j + 1) = i + 1 + j by omega])
      rwa [show i + (j + 1) + 1 = i + 1 + j + 1 by omega] at this
    rw [show i + 1 + ds.length = i + (d :: ds).length by rw [List.length_cons]; omega] at p2
    refine ⟨o.toList ++ xs, ρ2, ?_, by rw [← List.append_assoc]; exact p2⟩
    rw [compL, e1]
    simp only [e2]
    cases o <;> rfl
/-- a for whose turns go on -/
theorem forL_inv {turn : D → Env → O} (P : Nat → Env → Prop) : ∀ (ds : List D) (ρ : Env) (i : Nat), P i ρ →
    (∀ j d ρ, ds[j]? = some d → P (i + j) ρ → ∃ ρ', (turn d ρ = .nx ρ' ∨ turn d ρ = .ct ρ') ∧ P (i + j + 1) ρ') → ∃ ρ', forL turn ds ρ = .nx ρ' ∧ P (i + ds.length) ρ'
  | [], ρ, i, h0, _ => ⟨ρ, rfl, h0⟩
  | d :: ds, ρ, i, h0, h => by
    obtain ⟨ρ1, e1, p1⟩ := h 0 d ρ rfl h0
    obtain ⟨ρ2, e2, p2⟩ := forL_inv P ds ρ1 (i + 1) p1 fun j d' ρ' hj hp => by
      have := h (j + 1) d' ρ' hj (by rwa [show i + (j + 1) = i + 1 + j by omega])
      rwa [show i + (j + 1) + 1 = i + 1 + j + 1 by omega] at this
    rw [show i + 1 + ds.length = i + (d :: ds).length by rw [List.length_cons]; omega] at p2
    refine ⟨ρ2, ?_, p2⟩
    rcases e1 with e1 | e1 <;> rw [forL, e1] <;> exact e2
/-! ### equations -/
section
variable {α β : Type} (gl : Nat → Option D) (call : Nat → List D → R D) (fuel : Nat)
@[simp] theorem e_bind_ok (a : α) (ρ : Env) (f : α → Env → R β) : (R.ok a ρ).bind f = f a ρ := id rfl
@[simp] theorem e_bind_rz (x : Ex) (ρ : Env) (f : α → Env → R β) : (R.rz x ρ).bind f = .rz x ρ := id rfl
@[simp] theorem e_o_ok (a : α) (ρ : Env) (f : α → Env → O) : (R.ok a ρ).o f = f a ρ := id rfl
@[simp] theorem e_opt (b : α) (f : α → R β) : opt (some b) f = f b := id rfl
@[simp] theorem e_optO (b : α) (f : α → O) : optO (some b) f = f b := id rfl
@[simp] theorem e_if (r : R α) : ifOk true r = r := id rfl
@[simp] theorem e_ifO (r : O) : ifO true r = r := id rfl
@[simp] theorem e_nx (ρ : Env) (f : Env → O) : (O.nx ρ).next f = f ρ := id rfl
@[simp] theorem e_rt (d : D) (ρ : Env) (f : Env → O) : (O.rt d ρ).next f = .rt d ρ := id rfl
@[simp] theorem e_ct (ρ : Env) (f : Env → O) : (O.ct ρ).next f = .ct ρ := id rfl
@[simp] theorem e_bk (ρ : Env) (f : Env → O) : (O.bk ρ).next f = .bk ρ := id rfl
@[simp] theorem e_isT (b : Bool) : D.isT (.bl b) = b := id rfl
@[simp] theorem e_trv (r : R D) : Md.v.tr r = r := id rfl
@[simp] theorem e_trb (r : R D) : Md.b.tr r = r := id rfl
@[simp] theorem e_trt (d : D) (ρ : Env) : Md.t.tr (.ok d ρ) = opt d.truth fun k => .ok (.bl k) ρ := id rfl
@[simp] theorem e_plcb (d : D) (ρ : Env) : Md.b.plc d ρ = .ok d ρ := id rfl
@[simp] theorem e_plcv (d : D) (ρ : Env) : Md.v.plc d ρ = ifOk d.imm (.ok d ρ) := id rfl
@[simp] theorem e_plct (d : D) (ρ : Env) : Md.t.plc d ρ = opt d.truth fun k => .ok (.bl k) ρ := id rfl
@[simp] theorem e_nil (ok : Nat → Bool) (ρ : Env) : evSs gl call fuel .nil ok ρ = .nx ρ := id rfl
@[simp] theorem e_cons (s : S) (ss : Ss) (ok : Nat → Bool) (ρ : Env) : evSs gl call fuel (.cons s ss) ok ρ = (evS gl call fuel s ok ρ).next fun ρ1 => evSs gl call fuel ss ok ρ1 := id rfl
@[simp] theorem t_bl (b : Bool) : D.truth (.bl b) = some b := id rfl
@[simp] theorem t_int (i : Int) : D.truth (.int i) = some (i != 0) := id rfl
@[simp] theorem i_int (i : Int) : D.imm (.int i) = true := id rfl
@[simp] theorem i_bl (i : Bool) : D.imm (.bl i) = true := id rfl
@[simp] theorem i_non : D.imm .non = true := id rfl
@[simp] theorem i_str (s : PySem.Str) : D.imm (.str s) = true := id rfl
@[simp] theorem i_tup (xs : List D) : D.imm (.tup xs) = D.immL xs := id rfl
@[simp] theorem i_lst (xs : List D) : D.imm (.lst xs) = false := id rfl
@[simp] theorem i_nil : D.immL [] = true := id rfl
@[simp] theorem i_cons (x : D) (xs : List D) : D.immL (x :: xs) = (x.imm && D.immL xs) := id rfl
theorem immL_all : ∀ xs : List D, D.immL xs = xs.all D.imm
  | [] => rfl
  | x :: xs => by rw [i_cons, immL_all xs]; rfl
theorem immL_of {xs : List D} (h : ∀ x ∈ xs, x.imm = true) : D.immL xs = true := by rw [immL_all, List.all_eq_true]; exact h
@[simp] theorem immL_app (xs ys : List D) : D.immL (xs ++ ys) = (D.immL xs && D.immL ys) := by simp [immL_all]
end
section
variable {gl : Nat → Option D} {call : Nat → List D → R D} {fuel : Nat}
/-- the turn of a comprehension -/
def cturn (gl : Nat → Option D) (call : Nat → List D → R D) (elt : E) (tg : Tg) (cond : E) (own : List Nat) (d : D) (ρ' : Env) : R (Option D) :=
  opt (stT (fun i => own.contains i) tg d ρ') fun ρ2 => (evM gl call cond .t ρ2).bind fun k ρ3 => if k.isT = true then (evM gl call elt .v ρ3).bind fun x ρ4 => .ok (some x) (wipe ρ4 own) else .ok none (wipe ρ3 own)
theorem e_comp {elt cond : E} {tg : Tg} {it : It} {has : Bool} {own : List Nat} {ρ : Env} : evM gl call (.comp elt tg it cond has own) .v ρ = (evI gl call it ρ).bind fun q ρ1 => (compL (cturn gl call elt tg cond own) q.1 (wipe ρ1 own)).bind fun xs ρ5 => opt (thaw q.2 ρ5) fun ρ6 => .ok (.lst xs) ρ6 := id rfl
/-- a comprehension that only reads -/
theorem comp_ok {elt cond : E} {tg : Tg} {it : It} {has : Bool} {own : List Nat} {ρ ρ1 ρ2 : Env} {ds : List D} {fz : Option Nat} (f : D → Option D) (hi : evI gl call it ρ = .ok (ds, fz) ρ1)
    (ht : ∀ d ∈ ds, cturn gl call elt tg cond own d (wipe ρ1 own) = .ok (f d) (wipe ρ1 own)) (h2 : thaw fz (wipe ρ1 own) = some ρ2) : evM gl call (.comp elt tg it cond has own) .v ρ = .ok (.lst (ds.filterMap f)) ρ2 := by
  rw [e_comp, hi]
  simp only [e_bind_ok, compL_eq ds ht, h2, e_opt]
@[simp] theorem b_comp {elt cond : E} {tg : Tg} {it : It} {has : Bool} {own : List Nat} {ρ : Env} : evM gl call (.comp elt tg it cond has own) .b ρ = evM gl call (.comp elt tg it cond has own) .v ρ := id rfl
@[simp] theorem item_nat (xs : List D) (k : Nat) : D.item (.tup xs) (.int (k : Int)) = xs[k]? := by
  simp only [D.item, ixN]
  by_cases h : k < xs.length
  · simp [h]
  · simp [h]
@[simp] theorem item_natL (xs : List D) (k : Nat) : D.item (.lst xs) (.int (k : Int)) = xs[k]? := item_nat xs k
@[simp] theorem item_natR (b : Bool) (xs : List D) (k : Nat) : D.item (.rol b xs) (.int (k : Int)) = xs[k]? := item_nat xs k
@[simp] theorem item_L0 (xs : List D) : D.item (.lst xs) (.int 0) = xs[0]? := item_natL xs 0
@[simp] theorem item_T0 (xs : List D) : D.item (.tup xs) (.int 0) = xs[0]? := item_nat xs 0
@[simp] theorem item_L1 (xs : List D) : D.item (.lst xs) (.int 1) = xs[1]? := item_natL xs 1
@[simp] theorem item_T1 (xs : List D) : D.item (.tup xs) (.int 1) = xs[1]? := item_nat xs 1
@[simp] theorem item_L2 (xs : List D) : D.item (.lst xs) (.int 2) = xs[2]? := item_natL xs 2
@[simp] theorem item_T2 (xs : List D) : D.item (.tup xs) (.int 2) = xs[2]? := item_nat xs 2
@[simp] theorem item_L3 (xs : List D) : D.item (.lst xs) (.int 3) = xs[3]? := item_natL xs 3
@[simp] theorem item_T3 (xs : List D) : D.item (.tup xs) (.int 3) = xs[3]? := item_nat xs 3
@[simp] theorem item_L4 (xs : List D) : D.item (.lst xs) (.int 4) = xs[4]? := item_natL xs 4
@[simp] theorem item_T4 (xs : List D) : D.item (.tup xs) (.int 4) = xs[4]? := item_nat xs 4
@[simp] theorem item_L5 (xs : List D) : D.item (.lst xs) (.int 5) = xs[5]? := item_natL xs 5
@[simp] theorem item_T5 (xs : List D) : D.item (.tup xs) (.int 5) = xs[5]? := item_nat xs 5
@[simp] theorem item_L6 (xs : List D) : D.item (.lst xs) (.int 6) = xs[6]? := item_natL xs 6
@[simp] theorem item_T6 (xs : List D) : D.item (.tup xs) (.int 6) = xs[6]? := item_nat xs 6
theorem putAt_nat (v : D) (xs : List D) (k : Nat) : D.putAt v (.lst xs) [.int (k : Int)] = if k < xs.length then some (.lst (xs.set k v)) else none := by
  show (Ev.ixN xs.length (k : Int)).map (fun j => D.lst (xs.set j v)) = _
  by_cases h : k < xs.length
  · simp [ixN, h]
  · simp [ixN, h]
@[simp] theorem put_L0 (v : D) (xs : List D) : D.putAt v (.lst xs) [.int 0] = if 0 < xs.length then some (.lst (xs.set 0 v)) else none := putAt_nat v xs 0
@[simp] theorem put_L1 (v : D) (xs : List D) : D.putAt v (.lst xs) [.int 1] = if 1 < xs.length then some (.lst (xs.set 1 v)) else none := putAt_nat v xs 1
@[simp] theorem put_L2 (v : D) (xs : List D) : D.putAt v (.lst xs) [.int 2] = if 2 < xs.length then some (.lst (xs.set 2 v)) else none := putAt_nat v xs 2
@[simp] theorem put_L3 (v : D) (xs : List D) : D.putAt v (.lst xs) [.int 3] = if 3 < xs.length then some (.lst (xs.set 3 v)) else none := putAt_nat v xs 3
@[simp] theorem put_L4 (v : D) (xs : List D) : D.putAt v (.lst xs) [.int 4] = if 4 < xs.length then some (.lst (xs.set 4 v)) else none := putAt_nat v xs 4
theorem o_mul {i j : Int} (h : j.natAbs < 2 ^ 64) : Op2.run .mul (.int i) (.int j) = some (.int (i * j)) := by
  show (if i.natAbs < 2 ^ 64 ∨ j.natAbs < 2 ^ 64 then _ else _) = _
  rw [if_pos (.inr h)]
theorem o_mod {i j : Int} (h : j ≠ 0) : Op2.run .mod (.int i) (.int j) = some (.int (i.fmod j)) := by
  show (if j ≠ 0 then _ else _) = _
  rw [if_pos h]
theorem o_fdiv {i j : Int} (h : j ≠ 0) (h2 : j.natAbs < 1073741824) : Op2.run .fdiv (.int i) (.int j) = some (.int (i.fdiv j)) := by
  show (if j ≠ 0 ∧ j.natAbs < 1073741824 then _ else _) = _
  rw [if_pos ⟨h, h2⟩]
theorem item_mod {xs : List Int} (h : xs ≠ []) (t : Int) : ∃ c ∈ xs, D.item (.lst (xs.map .int)) (.int (t.fmod (xs.length : Int))) = some (.int c) := by
  have hp : 0 < (xs.length : Int) := by have := List.length_pos_iff.mpr h; omega
  obtain ⟨k, hk⟩ := Int.eq_ofNat_of_zero_le (Int.fmod_nonneg_of_pos t hp)
  have hl := Int.fmod_lt_of_pos t hp
  rw [hk] at hl ⊢
  have hkl : k < xs.length := by omega
  refine ⟨xs[k], List.getElem_mem hkl, ?_⟩
  rw [item_natL]
  simp [hkl]
@[simp] theorem len_tup (xs : List D) : Blt.run .len [.tup xs] = some (.int xs.length) := id rfl
@[simp] theorem len_lst (xs : List D) : Blt.run .len [.lst xs] = some (.int xs.length) := id rfl
@[simp] theorem len_rol (b : Bool) (xs : List D) : Blt.run .len [.rol b xs] = some (.int xs.length) := id rfl
@[simp] theorem tup_lst (xs : List D) : Blt.run .tuple [.lst xs] = if D.immL xs then some (.tup xs) else none := id rfl
@[simp] theorem int_int (i : Int) : Blt.run .int [.int i] = some (.int i) := id rfl
@[simp] theorem abs_int (i : Int) : Blt.run .abs [.int i] = some (.int (if i < 0 then -i else i)) := id rfl
@[simp] theorem max_two (i j : Int) : Blt.run .max [.int i, .int j] = some (.int (if j > i then j else i)) := id rfl
@[simp] theorem int?_int (i : Int) : D.int? (.int i) = some i := id rfl
@[simp] theorem c_lt (i j : Int) : Cmp.run .lt (.int i) (.int j) = some (decide (i < j)) := id rfl
@[simp] theorem c_le (i j : Int) : Cmp.run .le (.int i) (.int j) = some (decide (i ≤ j)) := id rfl
@[simp] theorem c_gt (i j : Int) : Cmp.run .gt (.int i) (.int j) = some (decide (j < i)) := id rfl
@[simp] theorem c_ge (i j : Int) : Cmp.run .ge (.int i) (.int j) = some (decide (j ≤ i)) := id rfl
@[simp] theorem c_eqi (i j : Int) : Cmp.run .eq (.int i) (.int j) = some (decide (i = j)) := id rfl
@[simp] theorem c_nei (i j : Int) : Cmp.run .ne (.int i) (.int j) = some (!decide (i = j)) := id rfl
@[simp] theorem c_isn (i : Int) : Cmp.run .is (.int i) .non = some false := id rfl
@[simp] theorem c_isnn : Cmp.run .is .non .non = some true := id rfl
@[simp] theorem c_nis (i : Int) : Cmp.run .isn (.int i) .non = some true := id rfl
@[simp] theorem c_nisn : Cmp.run .isn .non .non = some false := id rfl
@[simp] theorem o_add (i j : Int) : Op2.run .add (.int i) (.int j) = some (.int (i + j)) := id rfl
@[simp] theorem o_sub (i j : Int) : Op2.run .sub (.int i) (.int j) = some (.int (i - j)) := id rfl
theorem needs_q {d : D} {a : E} {q : Bool} (h : q = true) : needs d a q = true := by unfold needs; simp [h]
theorem needs_t {d : D} {a : E} {q : Bool} (h : a.temp = true) : needs d a q = true := by unfold needs; simp [h]
theorem needs_i {d : D} {a : E} {q : Bool} (h : d.imm = true) : needs d a q = true := by unfold needs; simp [h]
@[simp] theorem needs_true {d : D} {a : E} : needs d a true = true := needs_q rfl
@[simp] theorem q_var (i : Nat) : E.quiet (.var i) = true := id rfl
@[simp] theorem q_int (i : Int) : E.quiet (.int i) = true := id rfl
@[simp] theorem q_non : E.quiet .non = true := id rfl
@[simp] theorem q_bl (i : Bool) : E.quiet (.bl i) = true := id rfl
@[simp] theorem q_nil : Es.quiet .nil = true := id rfl
@[simp] theorem q_cons (e : E) (es : Es) : Es.quiet (.cons e es) = (e.quiet && es.quiet) := id rfl
@[simp] theorem q_idx (a b : E) : E.quiet (.idx a b) = (a.quiet && b.quiet) := id rfl
@[simp] theorem q_bin (o : Op2) (a b : E) : E.quiet (.bin o a b) = (a.quiet && b.quiet) := id rfl
@[simp] theorem q_cmp (o : Cmp) (a b : E) : E.quiet (.cmp o a b) = (a.quiet && b.quiet) := id rfl
@[simp] theorem q_blt (o : Blt) (es : Es) : E.quiet (.blt o es) = es.quiet := id rfl
@[simp] theorem q_lst (es : Es) : E.quiet (.lst es) = es.quiet := id rfl
@[simp] theorem q_tup (es : Es) : E.quiet (.tup es) = es.quiet := id rfl
@[simp] theorem q_neg (e : E) : E.quiet (.neg e) = e.quiet := id rfl
@[simp] theorem mv_lst (xs : List D) : D.movable (.lst xs) = true := id rfl
@[simp] theorem needs_comp {d : D} {elt cond : E} {tg : Tg} {it : It} {has : Bool} {own : List Nat} {q : Bool} : needs d (.comp elt tg it cond has own) q = true := needs_t rfl
@[simp] theorem needs_call {d : D} {f : Nat} {es : Es} {q : Bool} : needs d (.call f es) q = true := needs_t rfl
@[simp] theorem needs_bin {d : D} {o : Op2} {a b : E} {q : Bool} : needs d (.bin o a b) q = true := needs_t rfl
@[simp] theorem needs_slc {d : D} {a b c : E} {q : Bool} : needs d (.slc a b c) q = true := needs_t rfl
@[simp] theorem needs_tup {d : D} {es : Es} {q : Bool} : needs d (.tup es) q = true := needs_t rfl
@[simp] theorem needs_lst {d : D} {es : Es} {q : Bool} : needs d (.lst es) q = true := needs_t rfl
@[simp] theorem x_isi (a : E) (t : Ty) (m : Md) (ρ : Env) : evM gl call (.isi a t) m ρ = m.tr ((evM gl call a .b ρ).bind fun x ρ1 => opt (t.of x) fun b => .ok (.bl b) ρ1) := id rfl
@[simp] theorem ty_bool_int (i : Int) : Ty.of .bool (.int i) = some false := id rfl
@[simp] theorem ty_bool_bl (i : Bool) : Ty.of .bool (.bl i) = some true := id rfl
@[simp] theorem ty_bool_tup (i : List D) : Ty.of .bool (.tup i) = some false := id rfl
@[simp] theorem ty_tup_int (i : Int) : Ty.of .tuple (.int i) = some false := id rfl
@[simp] theorem ty_tup_bl (i : Bool) : Ty.of .tuple (.bl i) = some false := id rfl
@[simp] theorem ty_tup_tup (i : List D) : Ty.of .tuple (.tup i) = some true := id rfl
@[simp] theorem ty_int_int (i : Int) : Ty.of .int (.int i) = some true := id rfl
@[simp] theorem ty_int_bl (i : Bool) : Ty.of .int (.bl i) = some true := id rfl
@[simp] theorem ty_int_tup (i : List D) : Ty.of .int (.tup i) = some false := id rfl
@[simp] theorem c_ist (xs : List D) : Cmp.run .is (.tup xs) .non = some false := id rfl
@[simp] theorem c_isb (b : Bool) : Cmp.run .is (.bl b) .non = some false := id rfl
@[simp] theorem c_isnt (xs : List D) : Cmp.run .isn (.tup xs) .non = some true := id rfl
@[simp] theorem c_isnb (b : Bool) : Cmp.run .isn (.bl b) .non = some true := id rfl
@[simp] theorem c_eqb (a b : Bool) : Cmp.run .eq (.bl a) (.bl b) = some (a == b) := id rfl
/-! ### expressions -/
@[simp] theorem x_var (i : Nat) (m : Md) (ρ : Env) : evM gl call (.var i) m ρ = opt (rd ρ i) fun d => m.plc d ρ := id rfl
@[simp] theorem x_int (i : Int) (m : Md) (ρ : Env) : evM gl call (.int i) m ρ = m.tr (.ok (.int i) ρ) := id rfl
@[simp] theorem x_bl (i : Bool) (m : Md) (ρ : Env) : evM gl call (.bl i) m ρ = m.tr (.ok (.bl i) ρ) := id rfl
@[simp] theorem x_non (m : Md) (ρ : Env) : evM gl call .non m ρ = m.tr (.ok .non ρ) := id rfl
@[simp] theorem x_mov (i : Nat) (m : Md) (ρ : Env) : evM gl call (.mov i) m ρ = m.tr (opt (rd ρ i) fun d => if d.imm = true then .ok d ρ else ifOk d.movable (.ok d (ρ.set i .no))) := id rfl
@[simp] theorem x_bin (o : Op2) (a b : E) (m : Md) (ρ : Env) : evM gl call (.bin o a b) m ρ = m.tr ((evM gl call a .b ρ).bind fun x ρ1 => ifOk (needs x a b.quiet) <| (evM gl call b .b ρ1).bind fun y ρ2 => opt (o.run x y) fun z => .ok z ρ2) := id rfl
@[simp] theorem x_cmp (o : Cmp) (a b : E) (m : Md) (ρ : Env) : evM gl call (.cmp o a b) m ρ = m.tr ((evM gl call a .b ρ).bind fun x ρ1 => ifOk (needs x a b.quiet) <| (evM gl call b .b ρ1).bind fun y ρ2 => opt (o.run x y) fun z => .ok (.bl z) ρ2) := id rfl
@[simp] theorem x_neg (a : E) (m : Md) (ρ : Env) : evM gl call (.neg a) m ρ = m.tr ((evM gl call a .b ρ).bind fun x ρ1 => opt x.int? fun i => .ok (.int (-i)) ρ1) := id rfl
@[simp] theorem x_idx (a i : E) (m : Md) (ρ : Env) : evM gl call (.idx a i) m ρ = (evM gl call a .b ρ).bind fun x ρ1 => ifOk (needs x a i.quiet) <| (evM gl call i .v ρ1).bind fun k ρ2 => opt (x.item k) fun d => m.plc d ρ2 := id rfl
@[simp] theorem x_blt (b : Blt) (es : Es) (m : Md) (ρ : Env) : evM gl call (.blt b es) m ρ = m.tr ((evBs gl call es ρ).bind fun ds ρ1 => opt (b.run ds) fun d => .ok d ρ1) := id rfl
@[simp] theorem x_tup (es : Es) (m : Md) (ρ : Env) : evM gl call (.tup es) m ρ = m.tr ((evEs gl call es ρ).bind fun ds ρ1 => ifOk (fits ds.length) (.ok (.tup ds) ρ1)) := id rfl
@[simp] theorem x_lst (es : Es) (m : Md) (ρ : Env) : evM gl call (.lst es) m ρ = m.tr ((evEs gl call es ρ).bind fun ds ρ1 => ifOk (fits ds.length) (.ok (.lst ds) ρ1)) := id rfl
@[simp] theorem x_bsn (ρ : Env) : evBs gl call .nil ρ = .ok [] ρ := id rfl
@[simp] theorem x_bsc (e : E) (es : Es) (ρ : Env) : evBs gl call (.cons e es) ρ = (evM gl call e .b ρ).bind fun d ρ1 => ifOk (needs d e es.quiet) <| (evBs gl call es ρ1).bind fun ds ρ2 => .ok (d :: ds) ρ2 := id rfl
@[simp] theorem x_esn (ρ : Env) : evEs gl call .nil ρ = .ok [] ρ := id rfl
@[simp] theorem x_esc (e : E) (es : Es) (ρ : Env) : evEs gl call (.cons e es) ρ = (evM gl call e .v ρ).bind fun d ρ1 => (evEs gl call es ρ1).bind fun ds ρ2 => .ok (d :: ds) ρ2 := id rfl
@[simp] theorem x_rng1 (a : E) (ρ : Env) : evI gl call (.rng1 a) ρ = (evM gl call a .v ρ).bind fun x ρ1 => opt x.int? fun j => ifOk (rngOk j && fits j.toNat) (.ok (rngL 0 j, none) ρ1) := id rfl
@[simp] theorem x_froz (i : Nat) (ρ : Env) : evI gl call (.froz i) ρ = opt (rd ρ i) fun d => opt (items d) fun xs => if d.still = true then .ok (xs, none) ρ else .ok (xs, some i) (ρ.set i (.rol false xs)) := id rfl
@[simp] theorem x_ite (c a b : E) (m : Md) (ρ : Env) : evM gl call (.ite c a b) m ρ = m.tr ((evM gl call c .t ρ).bind fun k ρ1 => if k.isT = true then evM gl call a .v ρ1 else evM gl call b .v ρ1) := id rfl
@[simp] theorem x_and_t (a b : E) (ρ : Env) : evM gl call (.and a b) .t ρ = (evM gl call a .t ρ).bind fun k ρ1 => if k.isT = true then evM gl call b .t ρ1 else .ok (.bl false) ρ1 := id rfl
@[simp] theorem x_or_t (a b : E) (ρ : Env) : evM gl call (.or a b) .t ρ = (evM gl call a .t ρ).bind fun k ρ1 => if k.isT = true then .ok (.bl true) ρ1 else evM gl call b .t ρ1 := id rfl
@[simp] theorem x_not_t (a : E) (ρ : Env) : evM gl call (.not a) .t ρ = (evM gl call a .t ρ).bind fun k ρ1 => .ok (.bl (!k.isT)) ρ1 := id rfl
@[simp] theorem x_and_v (a b : E) (ρ : Env) : evM gl call (.and a b) .v ρ = (evM gl call a .v ρ).bind fun x ρ1 => opt x.truth fun k => if k = true then evM gl call b .v ρ1 else .ok x ρ1 := id rfl
@[simp] theorem x_or_v (a b : E) (ρ : Env) : evM gl call (.or a b) .v ρ = (evM gl call a .v ρ).bind fun x ρ1 => opt x.truth fun k => if k = true then .ok x ρ1 else evM gl call b .v ρ1 := id rfl
@[simp] theorem x_not_v (a : E) (ρ : Env) : evM gl call (.not a) .v ρ = (evM gl call a .b ρ).bind fun x ρ1 => opt x.truth fun k => .ok (.bl (!k)) ρ1 := id rfl
@[simp] theorem x_call (f : Nat) (es : Es) (m : Md) (ρ : Env) : evM gl call (.call f es) m ρ = m.tr ((evAs gl call es ρ).bind fun as ρ1 => callR call f as ρ1) := id rfl
@[simp] theorem x_asn (ρ : Env) : evAs gl call .nil ρ = .ok [] ρ := id rfl
@[simp] theorem x_asc (e : E) (es : Es) (ρ : Env) : evAs gl call (.cons e es) ρ = match e.lent? with
    | some i => opt (rd ρ i) fun _ => (evAs gl call es ρ).bind fun ds ρ2 => .ok ((some i, .no) :: ds) ρ2
    | none => (evM gl call e .v ρ).bind fun d ρ1 => (evAs gl call es ρ1).bind fun ds ρ2 => .ok ((none, d) :: ds) ρ2 := id rfl
@[simp] theorem l_lend (i : Nat) : E.lent? (.lend i) = some i := id rfl
@[simp] theorem l_var (i : Nat) : E.lent? (.var i) = none := id rfl
@[simp] theorem l_int (i : Int) : E.lent? (.int i) = none := id rfl
@[simp] theorem l_non : E.lent? .non = none := id rfl
@[simp] theorem l_bl (b : Bool) : E.lent? (.bl b) = none := id rfl
@[simp] theorem l_idx (a b : E) : E.lent? (.idx a b) = none := id rfl
@[simp] theorem l_bin (o : Op2) (a b : E) : E.lent? (.bin o a b) = none := id rfl
@[simp] theorem l_call (f : Nat) (es : Es) : E.lent? (.call f es) = none := id rfl
@[simp] theorem l_tup (es : Es) : E.lent? (.tup es) = none := id rfl
@[simp] theorem l_blt (b : Blt) (es : Es) : E.lent? (.blt b es) = none := id rfl
@[simp] theorem l_cmp (o : Cmp) (a b : E) : E.lent? (.cmp o a b) = none := id rfl
@[simp] theorem k_nil (ρ : Env) : takeL [] ρ = some ([], ρ) := id rfl
@[simp] theorem k_none (d : D) (r : List (Option Nat × D)) (ρ : Env) : takeL ((none, d) :: r) ρ = (takeL r ρ).map fun p => (d :: p.1, p.2) := id rfl
@[simp] theorem k_some (i : Nat) (x : D) (r : List (Option Nat × D)) (ρ : Env) : takeL ((some i, x) :: r) ρ = (rd ρ i).bind fun d => (takeL r (ρ.set i .no)).map fun p => (d :: p.1, p.2) := by
  show (match rd ρ i with | some d => _ | none => _) = _
  cases rd ρ i <;> rfl
@[simp] theorem g_nil (ρ : Env) : giveL [] [] ρ = ρ := id rfl
@[simp] theorem g_none (x d : D) (r : List (Option Nat × D)) (ds : List D) (ρ : Env) : giveL ((none, x) :: r) (d :: ds) ρ = giveL r ds ρ := id rfl
@[simp] theorem g_some (i : Nat) (x d : D) (r : List (Option Nat × D)) (ds : List D) (ρ : Env) : giveL ((some i, x) :: r) (d :: ds) ρ = (giveL r ds ρ).set i d := id rfl
@[simp] theorem callR_eq (f : Nat) (as : List (Option Nat × D)) (ρ1 : Env) : callR call f as ρ1 = opt (takeL as ρ1) fun q => match call f q.1 with
    | .ok d ds' => .ok d (giveL as ds' q.2)
    | .rz x ds' => .rz x (giveL as ds' q.2)
    | .st => .st := id rfl
@[simp] theorem x_mth (k : Mth) (p : P) (es : Es) (m : Md) (ρ : Env) : evM gl call (.mth k p es) m ρ = m.tr ((evP gl call p ρ).bind fun q _ => opt (rd ρ q.1) fun d0 => opt (d0.get q.2) fun c0 => opt c0.lst? fun _ => (evEs gl call es ρ).bind fun ds ρ2 =>
      opt (rd ρ2 q.1) fun d => opt (d.get q.2) fun c => opt c.lst? fun xs => opt (k.run xs ds) fun r =>
        opt (D.upd (fun _ => some (.lst r.2)) d q.2) fun d' => .ok r.1 (ρ2.set q.1 d')) := id rfl
@[simp] theorem p_root (i : Nat) (ρ : Env) : evP gl call (.root i) ρ = .ok (i, []) ρ := id rfl
@[simp] theorem p_at (p : P) (e : E) (ρ : Env) : evP gl call (.at p e) ρ = (evP gl call p ρ).bind fun q _ => opt (rd ρ q.1) fun d0 => opt (d0.get q.2) fun _ => (evM gl call e .v ρ).bind fun d _ => .ok (q.1, q.2 ++ [d]) ρ := id rfl
@[simp] theorem get_nil (d : D) : d.get [] = some d := by cases d <;> rfl
@[simp] theorem upd_nil (f : D → Option D) (d : D) : D.upd f d [] = f d := by cases d <;> rfl
@[simp] theorem lst?_lst (xs : List D) : D.lst? (.lst xs) = some xs := id rfl
@[simp] theorem run_append (xs : List D) (x : D) : Mth.run .append xs [x] = if xs.length < line then some (.non, xs ++ [x]) else none := id rfl
@[simp] theorem run_extend (xs ys : List D) : Mth.run .extend xs [.lst ys] = if xs.length + ys.length ≤ line ∧ D.immL ys = true then some (.non, xs ++ ys) else none := id rfl
@[simp] theorem u_loop (tg : Tg) (it : It) (body : Ss) (ok : Nat → Bool) (ρ : Env) : evS gl call fuel (.loop tg it body) ok ρ = (evI gl call it ρ).o fun q ρ1 => (forL (fun d ρ' => optO (stT (okBut ok q.2) tg d ρ') fun ρ2 => evSs gl call fuel body (okBut ok q.2) ρ2) q.1 ρ1).thaw q.2 := id rfl
@[simp] theorem u_set (tg : Tg) (e : E) (ok : Nat → Bool) (ρ : Env) : evS gl call fuel (.set tg e) ok ρ = (evM gl call e .v ρ).o fun d ρ1 => optO (stT ok tg d ρ1) .nx := id rfl
@[simp] theorem u_ite (c : E) (a b : Ss) (ok : Nat → Bool) (ρ : Env) : evS gl call fuel (.ite c a b) ok ρ = (evM gl call c .t ρ).o fun k ρ1 => if k.isT = true then evSs gl call fuel a ok ρ1 else evSs gl call fuel b ok ρ1 := id rfl
@[simp] theorem u_ret (e : E) (ok : Nat → Bool) (ρ : Env) : evS gl call fuel (.ret e) ok ρ = (evM gl call e .v ρ).o fun d ρ1 => .rt d ρ1 := id rfl
@[simp] theorem u_ex (e : E) (ok : Nat → Bool) (ρ : Env) : evS gl call fuel (.ex e) ok ρ = (evM gl call e .v ρ).o fun _ ρ1 => .nx ρ1 := id rfl
@[simp] theorem u_put (p : P) (e : E) (ok : Nat → Bool) (ρ : Env) : evS gl call fuel (.put p e) ok ρ = (evM gl call e .v ρ).o fun v ρ1 => (evP gl call p ρ1).o fun q _ => optO (rd ρ1 q.1) fun d => optO (D.putAt v d q.2) fun d' => .nx (ρ1.set q.1 d') := id rfl
@[simp] theorem thaw_nx (ρ : Env) : O.thaw none (.nx ρ) = .nx ρ := id rfl
@[simp] theorem thaw_rt (d : D) (ρ : Env) : O.thaw none (.rt d ρ) = .rt d ρ := id rfl
@[simp] theorem okBut_none (ok : Nat → Bool) : okBut ok none = ok := id rfl
@[simp] theorem st_nm (ok : Nat → Bool) (i : Nat) (d : D) (ρ : Env) : stT ok (.nm i) d ρ = if i < ρ.length ∧ ok i = true then some (ρ.set i d) else none := id rfl
@[simp] theorem rd_eq (ρ : Env) (i : Nat) : rd ρ i = (ρ[i]?).bind fun d => if d.isNo = true then none else some d := by
  unfold rd
  cases ρ[i]? with
  | none => rfl
  | some d => cases d <;> rfl
@[simp] theorem n_int (i : Int) : D.isNo (.int i) = false := id rfl
@[simp] theorem n_non : D.isNo .non = false := id rfl
@[simp] theorem n_bl (i : Bool) : D.isNo (.bl i) = false := id rfl
@[simp] theorem n_tup (i : List D) : D.isNo (.tup i) = false := id rfl
@[simp] theorem n_lst (i : List D) : D.isNo (.lst i) = false := id rfl
@[simp] theorem n_rol (b : Bool) (i : List D) : D.isNo (.rol b i) = false := id rfl
theorem small {n : Nat} (h : n ≤ 1000000) : n ≤ line := Nat.le_trans h (by decide)
theorem fits_of {n : Nat} (h : n ≤ 1000000) : fits n = true := fits_iff.mpr (small h)
@[simp] theorem fits_0 : fits 0 = true := fits_of (by omega)
@[simp] theorem fits_1 : fits 1 = true := fits_of (by omega)
@[simp] theorem fits_2 : fits 2 = true := fits_of (by omega)
@[simp] theorem fits_3 : fits 3 = true := fits_of (by omega)
@[simp] theorem fits_4 : fits 4 = true := fits_of (by omega)
@[simp] theorem fits_5 : fits 5 = true := fits_of (by omega)
@[simp] theorem fits_6 : fits 6 = true := fits_of (by omega)
@[simp] theorem fits_13 : fits 13 = true := fits_of (by omega)
theorem rngOk_of {i : Int} (h1 : -1000000 ≤ i) (h2 : i ≤ 1000000) : rngOk i = true := by unfold rngOk; simp; omega
end
def oD : Option Int → D
  | none => .non
  | some i => .int i
def tD (xs : List Int) : D := .tup (xs.map .int)
def tO (xs : List (Option Int)) : D := .tup (xs.map oD)
@[simp] theorem oD_no (o : Option Int) : (oD o).isNo = false := by cases o <;> rfl
@[simp] theorem oD_imm (o : Option Int) : (oD o).imm = true := by cases o <;> rfl
@[simp] theorem immL_ints (xs : List Int) : D.immL (xs.map .int) = true := immL_of fun x m => by obtain ⟨i, _, rfl⟩ := List.mem_map.mp m; rfl
@[simp] theorem immL_intc {α : Type} (f : α → Int) (xs : List α) : D.immL (xs.map (D.int ∘ f)) = true := by rw [← List.map_map]; exact immL_ints _
@[simp] theorem immL_oDc {α : Type} (f : α → Option Int) (xs : List α) : D.immL (xs.map (oD ∘ f)) = true := immL_of fun x m => by obtain ⟨i, _, rfl⟩ := List.mem_map.mp m; simp
@[simp] theorem immL_oD (xs : List (Option Int)) : D.immL (xs.map oD) = true := immL_of fun x m => by obtain ⟨i, _, rfl⟩ := List.mem_map.mp m; simp
/-- a range beside a list of that length -/
theorem rng_index {α β : Type} (l : List α) (g : α → Option β) (h : D → Option β) (e : ∀ (k : Nat) (x : α), l[k]? = some x → h (.int (k : Int)) = g x) : (rngL 0 l.length).filterMap h = l.filterMap g := by
  have gen : ∀ (l : List α) (off : Nat), (∀ (k : Nat) (x : α), l[k]? = some x → h (.int ((off + k : Nat) : Int)) = g x) → ((List.range l.length).map fun (k : Nat) => D.int ((off + k : Nat) : Int)).filterMap h = l.filterMap g := by
    intro l
    induction l with
    | nil => intro off _; rfl
    | cons x l ih =>
      intro off he
      rw [List.length_cons, List.range_succ_eq_map, List.map_cons, List.map_map, List.filterMap_cons, List.filterMap_cons]
      have h0 := he 0 x rfl
      have ih' := ih (off + 1) fun k y hy => by have := he (k + 1) y hy; rwa [show off + 1 + k = off + (k + 1) by omega]
      rw [h0]
      have e2 : (List.map ((fun (k : Nat) => D.int ((off + k : Nat) : Int)) ∘ Nat.succ) (List.range l.length)) = (List.range l.length).map fun (k : Nat) => D.int ((off + 1 + k : Nat) : Int) := by
        congr 1
        funext k
        show D.int _ = D.int _
        rw [show off + Nat.succ k = off + 1 + k by omega]
      rw [e2, ih']
  have := gen l 0 fun k x hx => by rw [Nat.zero_add]; exact e k x hx
  have e3 : (fun (k : Nat) => D.int (0 + (k : Int))) = fun (k : Nat) => D.int ((0 + k : Nat) : Int) := by funext k; simp
  have e4 : ((l.length : Int) - 0).toNat = l.length := by omega
  unfold rngL
  rw [e4, e3]
  exact this
theorem ints_map (xs : List Int) : D.ints (xs.map .int) = some xs := by
  induction xs with
  | nil => rfl
  | cons x xs ih => simp [D.ints, ih]
theorem max_ints (xs : List Int) : Blt.run .max [.lst (xs.map .int)] = (maxI xs).map .int := by
  show (D.ints (xs.map .int)).bind (fun ns => (maxI ns).map D.int) = _
  rw [ints_map]; rfl
theorem max_tup (xs : List Int) : Blt.run .max [.tup (xs.map .int)] = (maxI xs).map .int := by
  show (D.ints (xs.map .int)).bind (fun ns => (maxI ns).map D.int) = _
  rw [ints_map]; rfl
theorem min_ints (xs : List Int) : Blt.run .min [.lst (xs.map .int)] = (minI xs).map .int := by
  show (D.ints (xs.map .int)).bind (fun ns => (minI ns).map D.int) = _
  rw [ints_map]; rfl
theorem maxI_some {xs : List Int} (h : xs ≠ []) : ∃ v, maxI xs = some v := by
  cases xs with
  | nil => exact absurd rfl h
  | cons x xs => exact ⟨_, rfl⟩
theorem fold_max : ∀ (xs : List Int) (a : Int), a ≤ xs.foldl max a ∧ (∀ x ∈ xs, x ≤ xs.foldl max a) ∧ (xs.foldl max a = a ∨ xs.foldl max a ∈ xs)
  | [], a => ⟨Int.le_refl _, by simp, .inl rfl⟩
  | x :: xs, a => by
    obtain ⟨h1, h2, h3⟩ := fold_max xs (max a x)
    rw [List.foldl_cons]
    refine ⟨by omega, fun y m => ?_, ?_⟩
    · rcases List.mem_cons.mp m with rfl | m
      · omega
      · exact h2 y m
    · rcases h3 with h3 | h3
      · by_cases h : x ≤ a
        · left; rw [h3]; omega
        · right; rw [h3, show max a x = x by omega]; exact List.mem_cons_self
      · right; exact List.mem_cons_of_mem _ h3
theorem maxI_mem {xs : List Int} {v : Int} (h : maxI xs = some v) : v ∈ xs ∧ ∀ x ∈ xs, x ≤ v := by
  cases xs with
  | nil => cases h
  | cons x xs =>
    cases h
    obtain ⟨h1, h2, h3⟩ := fold_max xs x
    refine ⟨?_, fun y m => ?_⟩
    · rcases h3 with h3 | h3
      · rw [h3]; exact List.mem_cons_self
      · exact List.mem_cons_of_mem _ h3
    · rcases List.mem_cons.mp m with rfl | m
      · exact h1
      · exact h2 y m
theorem fold_min : ∀ (xs : List Int) (a : Int), xs.foldl min a ≤ a ∧ (∀ x ∈ xs, xs.foldl min a ≤ x) ∧ (xs.foldl min a = a ∨ xs.foldl min a ∈ xs)
  | [], a => ⟨Int.le_refl _, by simp, .inl rfl⟩
  | x :: xs, a => by
    obtain ⟨h1, h2, h3⟩ := fold_min xs (min a x)
    rw [List.foldl_cons]
    refine ⟨by omega, fun y m => ?_, ?_⟩
    · rcases List.mem_cons.mp m with rfl | m
      · omega
      · exact h2 y m
    · rcases h3 with h3 | h3
      · by_cases h : a ≤ x
        · left; rw [h3]; omega
        · right; rw [h3, show min a x = x by omega]; exact List.mem_cons_self
      · right; exact List.mem_cons_of_mem _ h3
theorem minI_mem {xs : List Int} {v : Int} (h : minI xs = some v) : v ∈ xs ∧ ∀ x ∈ xs, v ≤ x := by
  cases xs with
  | nil => cases h
  | cons x xs =>
    cases h
    obtain ⟨h1, h2, h3⟩ := fold_min xs x
    refine ⟨?_, fun y m => ?_⟩
    · rcases h3 with h3 | h3
      · rw [h3]; exact List.mem_cons_self
      · exact List.mem_cons_of_mem _ h3
    · rcases List.mem_cons.mp m with rfl | m
      · exact h1
      · exact h2 y m
/-- a for over the places of a list that only adds to a list; I by the turn -/
theorem forL_rng {α σ : Type} {turn : D → Env → O} (E : List D → σ → Env) (g : Nat → α → List D) (I : Nat → List D → Prop) : ∀ (l : List α) (off : Nat) (acc : List D) (x : σ), I off acc →
    (∀ (k : Nat) (a : α) (acc : List D) (x : σ), l[k]? = some a → I (off + k) acc → I (off + k + 1) (acc ++ g (off + k) a) ∧ ∃ x', (turn (.int ((off + k : Nat) : Int)) (E acc x) = .nx (E (acc ++ g (off + k) a) x') ∨ turn (.int ((off + k : Nat) : Int)) (E acc x) = .ct (E (acc ++ g (off + k) a) x'))) →
    ∃ x', forL turn ((List.range l.length).map fun (k : Nat) => D.int ((off + k : Nat) : Int)) (E acc x) = .nx (E (acc ++ ((l.zipIdx off).flatMap fun p => g p.2 p.1)) x')
  | [], off, acc, x, _, _ => ⟨x, by simp [forL]⟩
  | a :: l, off, acc, x, h0, h => by
    obtain ⟨i1, x1, h1⟩ := h 0 a acc x rfl h0
    obtain ⟨x2, h2⟩ := forL_rng E g I l (off + 1) (acc ++ g (off + 0) a) x1 i1 fun k b acc y hk hi => by
      have := h (k + 1) b acc y hk (by rwa [show off + (k + 1) = off + 1 + k by omega])
      rwa [show off + (k + 1) = off + 1 + k by omega] at this
    refine ⟨x2, ?_⟩
    rw [List.length_cons, List.range_succ_eq_map, List.map_cons, List.map_map]
    have e2 : (List.map ((fun (k : Nat) => D.int ((off + k : Nat) : Int)) ∘ Nat.succ) (List.range l.length)) = (List.range l.length).map fun (k : Nat) => D.int ((off + 1 + k : Nat) : Int) := by
      congr 1
      funext k
      show D.int _ = D.int _
      rw [show off + Nat.succ k = off + 1 + k by omega]
    rw [e2]
    simp only [List.zipIdx_cons, List.flatMap_cons]
    rw [← List.append_assoc]
    rcases h1 with h1 | h1 <;> (rw [forL, h1]; exact h2)
theorem rngL_0 (n : Nat) : rngL 0 (n : Int) = (List.range n).map fun (k : Nat) => D.int ((0 + k : Nat) : Int) := by
  have e3 : (fun (k : Nat) => D.int (0 + (k : Int))) = fun (k : Nat) => D.int ((0 + k : Nat) : Int) := by funext k; simp
  have e4 : ((n : Int) - 0).toNat = n := by omega
  unfold rngL
  rw [e4, e3]
theorem run_eq {p : Pg} {fuel n f : Nat} {ds : List D} {df : Def} (h : p.defs[f]? = some df) (hl : ds.length = df.ps) (h2 : df.ps ≤ df.ns) :
    run p fuel (n + 1) f ds = (evSs (fun g => p.glb[g]?) (run p fuel n) fuel df.body (okP ds) (ds ++ List.replicate (df.ns - df.ps) .no)).fin ds := by
  show opt p.defs[f]? _ = _
  rw [h, e_opt, if_pos ⟨hl, h2⟩]
end Ev
end

section
set_option linter.all false
set_option maxRecDepth 100000
/-! EvN: more equations; causes, ownC causes, the jar: bodies that several laws share, over any calls. -/
namespace Ev

@[simp] theorem u_putr (gl : Nat → Option D) (call : Nat → List D → R D) (fl : Nat) (x : Nat) (i e : E) (ok : Nat → Bool) (ρ : Env) : evS gl call fl (.putr x i e) ok ρ = (evM gl call e .v ρ).o fun v ρ1 => optO (rd ρ1 x) fun _ => (evM gl call i .v ρ1).o fun k ρ2 => ifO k.imm <|
      optO (rd ρ2 x) fun d => optO (D.putAt v d [k]) fun d' => .nx (ρ2.set x d') := id rfl

@[simp] theorem u_cnt (gl : Nat → Option D) (call : Nat → List D → R D) (fl : Nat) (ok : Nat → Bool) (ρ : Env) : evS gl call fl .cnt ok ρ = .ct ρ := id rfl

@[simp] theorem l_mov (i : Nat) : E.lent? (.mov i) = none := id rfl
@[simp] theorem x_part (gl : Nat → Option D) (call : Nat → List D → R D) (m : Md) (ρ : Env) : evM gl call .part m ρ = m.tr (.ok .non ρ) := id rfl
@[simp] theorem x_slc (gl : Nat → Option D) (call : Nat → List D → R D) (a lo hi : E) (m : Md) (ρ : Env) : evM gl call (.slc a lo hi) m ρ = (m.tr <| (evM gl call a .b ρ).bind fun x ρ1 => ifOk (needs x a (lo.quiet && hi.quiet)) <| (evM gl call lo .v ρ1).bind fun l ρ2 => opt (partOf lo l) fun l => (evM gl call hi .v ρ2).bind fun h ρ3 =>
      opt (partOf hi h) fun h => opt (x.slice l h) fun d => .ok d ρ3) := id rfl
@[simp] theorem po_part (d : D) : partOf .part d = some none := id rfl
@[simp] theorem po_var (i : Nat) (d : D) : partOf (.var i) d = d.int?.map some := id rfl
@[simp] theorem po_bin (o : Op2) (a b : E) (d : D) : partOf (.bin o a b) d = d.int?.map some := id rfl
@[simp] theorem q_part : E.quiet .part = true := id rfl
theorem slice_take (xs : List D) (k : Nat) : D.slice (.tup xs) none (some (k : Int)) = if D.immL xs = true then some (.tup (xs.take k)) else none := by
  show (if D.immL xs = true then some (D.tup (cut xs none (some (k : Int)))) else none) = _
  have : cut xs none (some (k : Int)) = xs.take k := by
    unfold cut sIx
    have : ¬ (k : Int) < 0 := by omega
    simp [this]
  rw [this]
theorem slice_drop (xs : List D) (k : Nat) : D.slice (.tup xs) (some (k : Int)) none = if D.immL xs = true then some (.tup (xs.drop k)) else none := by
  show (if D.immL xs = true then some (D.tup (cut xs (some (k : Int)) none)) else none) = _
  have : cut xs (some (k : Int)) none = xs.drop k := by
    unfold cut sIx
    have : ¬ (k : Int) < 0 := by omega
    simp [this]
    by_cases h : k ≤ xs.length
    · rw [Nat.min_eq_left h]
      rw [List.take_of_length_le]; rw [List.length_drop]; exact Nat.le_refl _
    · rw [Nat.min_eq_right (by omega), List.drop_eq_nil_of_le (Nat.le_refl _), List.drop_eq_nil_of_le (by omega)]; simp
  rw [this]
theorem o_addT (xs ys : List D) : Op2.run .add (.tup xs) (.tup ys) = if xs.length + ys.length ≤ line ∧ D.immL xs = true ∧ D.immL ys = true then some (.tup (xs ++ ys)) else none := id rfl
theorem immL_mem {xs : List D} (h : D.immL xs = true) : ∀ x ∈ xs, x.imm = true := by rw [immL_all, List.all_eq_true] at h; exact h
theorem immL_take {xs : List D} (h : D.immL xs = true) (k : Nat) : D.immL (xs.take k) = true := immL_of fun x m => immL_mem h x (List.mem_of_mem_take m)
theorem immL_drop {xs : List D} (h : D.immL xs = true) (k : Nat) : D.immL (xs.drop k) = true := immL_of fun x m => immL_mem h x (List.mem_of_mem_drop m)
theorem add3 {xs : List D} (h : D.immL xs = true) (hl : xs.length ≤ 1000) {d : D} (hd : d.imm = true) (k k' : Nat) : Op2.run .add (.tup (xs.take k)) (.tup [d]) = some (.tup (xs.take k ++ [d])) ∧ Op2.run .add (.tup (xs.take k ++ [d])) (.tup (xs.drop k')) = some (.tup (xs.take k ++ [d] ++ xs.drop k')) := by
  constructor
  · rw [o_addT, if_pos ⟨small (by simp; omega), immL_take h k, by simp [hd]⟩]
  · rw [o_addT, if_pos ⟨small (by simp; omega), by simp [immL_take h k, hd], immL_drop h k'⟩]

theorem fin_imm {ds : List D} {d : D} {r : Env} (h : ∀ x ∈ ds, x.imm = true) : (O.rt d (ds ++ r)).fin ds = .ok d ds := by
  show R.ok d (Ev.fin ds (ds ++ r)) = _
  congr 1
  unfold Ev.fin
  induction ds with
  | nil => rfl
  | cons x xs ih => rw [List.cons_append, List.zipWith_cons_cons, ih fun y m => h y (List.mem_cons_of_mem _ m)]; simp

@[simp] theorem q_call (f : Nat) (es : Es) : E.quiet (.call f es) = false := id rfl
theorem o_rep {x : D} (h : x.imm = true) {k : Nat} (h1 : 1 ≤ k) (h2 : k ≤ 1000) : Op2.run .mul (.tup [x]) (.int (k : Int)) = some (.tup (List.replicate k x)) := by
  show (if 1 ≤ (k : Int) ∧ (k : Int) ≤ 1000 ∧ x.imm = true then some (D.tup (List.replicate (k : Int).toNat x)) else none) = _
  rw [if_pos ⟨by omega, by omega, h⟩, Int.toNat_natCast]
@[simp] theorem x_seqv (gl : Nat → Option D) (call : Nat → List D → R D) (a : E) (ρ : Env) : evI gl call (.seqv a) ρ = (evM gl call a .b ρ).bind fun d ρ1 => opt (items d) fun xs => ifOk (d.sits) (.ok (xs, none) ρ1) := id rfl

theorem tab {xs : List Int} {v : Int} (h0 : 0 ≤ v) (h1 : v < xs.length) : ∃ x ∈ xs, D.item (.lst (xs.map .int)) (.int v) = some (.int x) := by
  obtain ⟨k, rfl⟩ := Int.eq_ofNat_of_zero_le h0
  have hk : k < xs.length := by omega
  exact ⟨xs[k], List.getElem_mem hk, by rw [item_natL, List.getElem?_map, List.getElem?_eq_getElem hk]; rfl⟩
@[simp] theorem n_rolx (b : Bool) (i : List D) : D.isNo (.rol b i) = false := id rfl

@[simp] theorem x_callk (gl : Nat → Option D) (call : Nat → List D → R D) (f n : Nat) (ks : List Nat) (es : Es) (m : Md) (ρ : Env) : evM gl call (.callk f n ks es) m ρ = m.tr ((evAs gl call es ρ).bind fun as ρ1 => callR call f (reord n ks as) ρ1) := id rfl
@[simp] theorem l_callk (f n : Nat) (ks : List Nat) (es : Es) : E.lent? (.callk f n ks es) = none := id rfl
@[simp] theorem reord2 (a b : Option Nat × D) : reord 0 [1, 0] [a, b] = [b, a] := by rfl
@[simp] theorem needs_int (i : Int) (e : E) (q : Bool) : needs (.int i) e q = true := needs_i rfl

@[simp] theorem u_brk (gl : Nat → Option D) (call : Nat → List D → R D) (fl : Nat) (ok : Nat → Bool) (ρ : Env) : evS gl call fl .brk ok ρ = .bk ρ := id rfl
@[simp] theorem u_pass (gl : Nat → Option D) (call : Nat → List D → R D) (fl : Nat) (ok : Nat → Bool) (ρ : Env) : evS gl call fl .pass ok ρ = .nx ρ := id rfl
@[simp] theorem l_not (a : E) : E.lent? (.not a) = none := id rfl
@[simp] theorem l_neg (a : E) : E.lent? (.neg a) = none := id rfl
@[simp] theorem l_slc (a b c : E) : E.lent? (.slc a b c) = none := id rfl
@[simp] theorem l_lst (es : Es) : E.lent? (.lst es) = none := id rfl
@[simp] theorem l_str (s : PySem.Str) : E.lent? (.str s) = none := id rfl
@[simp] theorem l_ite (a b c : E) : E.lent? (.ite a b c) = none := id rfl
@[simp] theorem l_isi (a : E) (t : Ty) : E.lent? (.isi a t) = none := id rfl
@[simp] theorem l_frz (a : E) : E.lent? (.frz a) = none := id rfl
@[simp] theorem l_and (a b : E) : E.lent? (.and a b) = none := id rfl
@[simp] theorem x_str (gl : Nat → Option D) (call : Nat → List D → R D) (s : PySem.Str) (m : Md) (ρ : Env) : evM gl call (.str s) m ρ = m.tr (.ok (.str s) ρ) := id rfl
@[simp] theorem x_frz (gl : Nat → Option D) (call : Nat → List D → R D) (e : E) (m : Md) (ρ : Env) : evM gl call (.frz e) m ρ = m.tr ((evM gl call e .v ρ).bind fun d ρ1 => opt d.lst? fun xs => ifOk (D.immL xs) (.ok (.rol true xs) ρ1)) := id rfl
@[simp] theorem x_srt (gl : Nat → Option D) (call : Nat → List D → R D) (e : E) (m : Md) (ρ : Env) : evM gl call (.srt e) m ρ = m.tr ((evM gl call e .b ρ).bind fun d ρ1 => opt (srtRun d) fun d' => .ok d' ρ1) := id rfl
@[simp] theorem x_seq (gl : Nat → Option D) (call : Nat → List D → R D) (a : E) (ρ : Env) : evI gl call (.seq a) ρ = (evM gl call a .v ρ).bind fun d ρ1 => opt (items d) fun xs => .ok (xs, none) ρ1 := id rfl
@[simp] theorem i_rol (k : Bool) (xs : List D) : D.imm (.rol k xs) = k := id rfl
@[simp] theorem x_and_b (gl : Nat → Option D) (call : Nat → List D → R D) (a b : E) (ρ : Env) : evM gl call (.and a b) .b ρ = evM gl call (.and a b) .v ρ := id rfl
theorem compL_map {α : Type} {turn : D → Env → R (Option D)} {ρ : Env} (enc : α → D) (f : α → Option D) : ∀ (l : List α), (∀ a ∈ l, turn (enc a) ρ = .ok (f a) ρ) → compL turn (l.map enc) ρ = .ok (l.filterMap f) ρ
  | [], _ => rfl
  | a :: l, h => by
    rw [List.map_cons, compL, h a List.mem_cons_self]
    simp only [compL_map enc f l fun x m => h x (List.mem_cons_of_mem _ m)]
    rw [List.filterMap_cons]
    cases f a <;> rfl
/-- a comprehension that only reads, over things -/
theorem comp_map {gl : Nat → Option D} {call : Nat → List D → R D} {elt cond : E} {tg : Tg} {it : It} {has : Bool} {ownC : List Nat} {ρ ρ1 ρ2 : Env} {fz : Option Nat} {α : Type} (enc : α → D) (f : α → Option D) (l : List α) (hi : evI gl call it ρ = .ok (l.map enc, fz) ρ1)
    (ht : ∀ a ∈ l, cturn gl call elt tg cond ownC (enc a) (wipe ρ1 ownC) = .ok (f a) (wipe ρ1 ownC)) (h2 : thaw fz (wipe ρ1 ownC) = some ρ2) : evM gl call (.comp elt tg it cond has ownC) .v ρ = .ok (.lst (l.filterMap f)) ρ2 := by
  rw [e_comp, hi]
  simp only [e_bind_ok, compL_map enc f l ht, h2, e_opt]
/-- what a loop walks, told by places and things -/
def encL {α : Type} (enc : Nat → α → D) (n : Nat) (l : List α) : List D := (l.zipIdx n).map fun p => enc p.2 p.1
theorem encL_map {α : Type} (enc : α → D) (n : Nat) (l : List α) : encL (fun _ => enc) n l = l.map enc := by
  unfold encL
  induction l generalizing n with
  | nil => rfl
  | cons a l ih => rw [List.zipIdx_cons, List.map_cons, List.map_cons]; exact congrArg _ (ih (n + 1))
theorem encL_rng {α : Type} (l : List α) : encL (fun k (_ : α) => .int (k : Int)) 0 l = rngL 0 (l.length : Int) := by
  have : ∀ (l : List α) (n : Nat), encL (fun k (_ : α) => D.int (k : Int)) n l = (List.range l.length).map fun (k : Nat) => D.int ((n + k : Nat) : Int) := by
    intro l
    induction l with
    | nil => intro n; rfl
    | cons a l ih =>
      intro n
      unfold encL
      rw [List.zipIdx_cons, List.map_cons, List.length_cons, List.range_succ_eq_map, List.map_cons, List.map_map]
      have := ih (n + 1)
      unfold encL at this
      rw [this]
      congr 1
      refine List.map_congr_left fun k _ => ?_
      show D.int _ = D.int _
      rw [show n + Nat.succ k = n + 1 + k by omega]
  rw [this l 0, rngL_0]
/-- a for whose turns all go on: a fold -/
theorem forL_fj {α σ J : Type} {turn : D → Env → O} (E : σ → J → Env) (f : α → σ → σ) (I : Nat → σ → Prop) (enc : Nat → α → D) : ∀ (l : List α) (n : Nat) (s : σ) (j : J), I n s →
    (∀ (k : Nat) (a : α) (s : σ) (j : J), l[k]? = some a → I (n + k) s → (∃ j', turn (enc (n + k) a) (E s j) = .nx (E (f a s) j') ∨ turn (enc (n + k) a) (E s j) = .ct (E (f a s) j')) ∧ I (n + k + 1) (f a s)) →
    ∃ j', forL turn (encL enc n l) (E s j) = .nx (E (l.foldl (fun s a => f a s) s) j') ∧ I (n + l.length) (l.foldl (fun s a => f a s) s)
  | [], n, s, j, h0, _ => ⟨j, rfl, h0⟩
  | a :: l, n, s, j, h0, h => by
    obtain ⟨⟨j1, h1⟩, i1⟩ := h 0 a s j rfl h0
    obtain ⟨j2, h2, i2⟩ := forL_fj E f I enc l (n + 1) (f a s) j1 i1 fun k b s j hk hi => by
      have := h (k + 1) b s j hk (by rwa [show n + (k + 1) = n + 1 + k by omega])
      rwa [show n + (k + 1) = n + 1 + k by omega] at this
    refine ⟨j2, ?_, by rw [List.length_cons, show n + (l.length + 1) = n + 1 + l.length by omega]; exact i2⟩
    unfold encL
    rw [List.zipIdx_cons, List.map_cons, forL]
    unfold encL at h2
    rcases h1 with h1 | h1 <;> (rw [show enc (n + 0) a = enc n a from rfl] at h1; rw [h1]; exact h2)
theorem run_of {p : Pg} {fl n f : Nat} {ds : List D} {df : Def} {r : R D} (h : p.defs[f]? = some df) (hl : ds.length = df.ps) (h2 : df.ps ≤ df.ns)
    (e : ∀ (gl : Nat → Option D), (evSs gl (run p fl n) fl df.body (okP ds) (ds ++ List.replicate (df.ns - df.ps) .no)).fin ds = r) : run p fl (n + 1) f ds = r := (run_eq h hl h2).trans (e _)

def ahead : Option Int → Option Int → Bool
  | none, _ => false
  | some _, none => true
  | some a, some b => decide (a < b)

def sel (zs : List (Int × Option Int)) : List (Int × Option Int) := zs.filter fun z => decide (0 ≤ z.1)
def pairD (z : Int × Option Int) : D := .tup [oD z.2, .int z.1]
theorem r_ct1 (gl : Nat → Option D) (call : Nat → List D → R D) (zs : List (Int × Option Int)) (hl : zs.length ≤ 100) (a b c d : D) :
    evM gl call (.comp (.tup (.cons (.idx (.var 1) (.var 3)) (.cons (.idx (.var 0) (.var 3)) .nil))) (.nm 3) (.rng1 (.blt .len (.cons (.var 0) .nil))) (.cmp .ge (.idx (.var 0) (.var 3)) (.int 0)) true [3]) .v
      [tD (zs.map (·.1)), tO (zs.map (·.2)), a, b, c, d] = .ok (.lst ((sel zs).map pairD)) [tD (zs.map (·.1)), tO (zs.map (·.2)), a, .no, c, d] := by
  refine (comp_ok (fz := none) (ρ1 := [tD (zs.map (·.1)), tO (zs.map (·.2)), a, b, c, d]) (ds := rngL 0 zs.length) (fun d => match d with
    | .int k => (zs[k.toNat]?).bind fun z => if 0 ≤ z.1 then some (pairD z) else none
    | _ => none) ?_ ?_ rfl).trans ?_
  · simp [tD, rngOk_of (i := (zs.length : Int)) (by omega) (by omega), fits_of (n := zs.length) (by omega)]
  · intro x hx
    unfold rngL at hx
    obtain ⟨k, hk, rfl⟩ := List.mem_map.mp hx
    have hk : k < zs.length := by simpa using hk
    simp [cturn, stT, Ev.wipe, tD, tO, hk]
    split <;> simp_all [pairD]
  · congr 2
    have := rng_index zs (fun z => if 0 ≤ z.1 then some (pairD z) else none) (fun d => match d with
      | .int k => (zs[k.toNat]?).bind fun z => if 0 ≤ z.1 then some (pairD z) else none
      | _ => none) fun k x hx => by simp [hx]
    rw [this]
    unfold sel
    clear this hl
    induction zs with
    | nil => rfl
    | cons z zs ih =>
      by_cases h : 0 ≤ z.1 <;> simp [h, ih]
theorem r_ct2 (gl : Nat → Option D) (call : Nat → List D → R D) (ps : List (Int × Option Int)) (C T a c d : D) :
    evM gl call (.comp (.var 4) (.tup (.cons (.nm 4) (.cons (.nm 5) .nil))) (.froz 2) (.cmp .is (.var 4) .non) true [4, 5]) .v
      [C, T, .lst (ps.map pairD), a, c, d] = .ok (.lst ((ps.filter fun z => z.2.isNone).map fun _ => D.non)) [C, T, .lst (ps.map pairD), a, .no, .no] := by
  have him : D.immL (ps.map pairD) = true := immL_of fun x m => by obtain ⟨z, _, rfl⟩ := List.mem_map.mp m; simp [pairD]
  refine (comp_ok (fz := some 2) (ρ1 := [C, T, .rol false (ps.map pairD), a, c, d]) (ds := ps.map pairD) (fun d => match d with
    | .tup [.non, _] => some .non
    | _ => none) ?_ ?_ rfl).trans ?_
  · simp [items, him, D.still]
  · intro x hx
    obtain ⟨z, _, rfl⟩ := List.mem_map.mp hx
    obtain ⟨k, o⟩ := z
    cases o <;> simp [cturn, stT, stTs, Ev.wipe, pairD, oD, Tgs.len]
  · congr 2
    rw [List.filterMap_map]
    clear him
    induction ps with
    | nil => rfl
    | cons z ps ih =>
      obtain ⟨k, o⟩ := z
      cases o <;> simp [pairD, oD] <;> exact ih
theorem r_ct3 (gl : Nat → Option D) (call : Nat → List D → R D) (ps : List (Int × Option Int)) (h : ∀ z ∈ ps, z.2 ≠ none) (C T a c d : D) :
    evM gl call (.comp (.bin .add (.var 4) (.var 5)) (.tup (.cons (.nm 4) (.cons (.nm 5) .nil))) (.froz 2) (.bl true) false [4, 5]) .v
      [C, T, .lst (ps.map pairD), a, c, d] = .ok (.lst ((ps.map fun z => z.2.getD 0 + z.1).map .int)) [C, T, .lst (ps.map pairD), a, .no, .no] := by
  have him : D.immL (ps.map pairD) = true := immL_of fun x m => by obtain ⟨z, _, rfl⟩ := List.mem_map.mp m; simp [pairD]
  refine (comp_ok (fz := some 2) (ρ1 := [C, T, .rol false (ps.map pairD), a, c, d]) (ds := ps.map pairD) (fun d => match d with
    | .tup [.int t, .int k] => some (.int (t + k))
    | _ => none) ?_ ?_ rfl).trans ?_
  · simp [items, him, D.still]
  · intro x hx
    obtain ⟨z, mz, rfl⟩ := List.mem_map.mp hx
    obtain ⟨k, o⟩ := z
    cases o with
    | none => exact absurd rfl (h _ mz)
    | some t => simp [cturn, stT, stTs, Ev.wipe, pairD, oD, Tgs.len]
  · congr 2
    rw [List.filterMap_map]
    clear him
    induction ps with
    | nil => rfl
    | cons z ps ih =>
      obtain ⟨k, o⟩ := z
      cases o with
      | none => exact absurd rfl (h _ List.mem_cons_self)
      | some t =>
        have := ih fun z m => h z (List.mem_cons_of_mem _ m)
        simp [pairD, oD]
        simpa using this
/-- the time of a cause -/
def come (zs : List (Int × Option Int)) : Option Int := if (sel zs).any (fun z => z.2.isNone) then none else maxI ((sel zs).map fun z => z.2.getD 0 + z.1)

def cCauseTime : Ss := (.cons (.set (.nm 2) (.comp (.tup (.cons (.idx (.var 1) (.var 3)) (.cons (.idx (.var 0) (.var 3)) .nil))) (.nm 3) (.rng1 (.blt .len (.cons (.var 0) .nil))) (.cmp .ge (.idx (.var 0) (.var 3)) (.int 0)) true [3])) (.cons (.ite (.cmp .gt (.blt .len (.cons (.comp (.var 4) (.tup (.cons (.nm 4) (.cons (.nm 5) .nil))) (.froz 2) (.cmp .is (.var 4) .non) true [4, 5]) .nil)) (.int 0)) (.cons (.ret .non) .nil) .nil) (.cons (.ret (.blt .max (.cons (.comp (.bin .add (.var 4) (.var 5)) (.tup (.cons (.nm 4) (.cons (.nm 5) .nil))) (.froz 2) (.bl true) false [4, 5]) .nil))) .nil)))
theorem b_cause_time (gl : Nat → Option D) (call : Nat → List D → R D) (fl : Nat) (zs : List (Int × Option Int)) (hl : zs.length ≤ 100) (hs : sel zs ≠ []) : (evSs gl call fl cCauseTime (okP [tD (zs.map (·.1)), tO (zs.map (·.2))]) [tD (zs.map (·.1)), tO (zs.map (·.2)), .no, .no, .no, .no]).fin [tD (zs.map (·.1)), tO (zs.map (·.2))] = .ok (oD (come zs)) [tD (zs.map (·.1)), tO (zs.map (·.2))] := by
  unfold cCauseTime
  simp only [e_cons, evS]
  rw [r_ct1 _ _ zs hl]
  have hset : ∀ (x : D), stT (okP [tD (zs.map (·.1)), tO (zs.map (·.2))]) (.nm 2) x [tD (zs.map (·.1)), tO (zs.map (·.2)), .no, .no, .no, .no] = some [tD (zs.map (·.1)), tO (zs.map (·.2)), x, .no, .no, .no] := fun x => rfl
  simp only [e_o_ok, hset, e_optO, e_nx, x_cmp, x_blt, x_bsc, x_bsn, b_comp]
  rw [r_ct2]
  simp only [e_bind_ok]
  by_cases hn : (sel zs).any (fun z => z.2.isNone) = true
  · have : ((sel zs).filter fun z => z.2.isNone) ≠ [] := by
      obtain ⟨z, mz, hz⟩ := List.any_eq_true.mp hn
      intro e
      have : z ∈ (sel zs).filter fun z => z.2.isNone := List.mem_filter.mpr ⟨mz, hz⟩
      rw [e] at this; cases this
    have hp : 0 < ((sel zs).filter fun z => z.2.isNone).length := List.length_pos_iff.mpr this
    simp [hp, come, hn, oD, O.fin, fin, evS, tD, tO]
  · have h0 : ((sel zs).filter fun z => z.2.isNone) = [] := by
      rw [List.filter_eq_nil_iff]
      intro z mz hz
      exact hn (List.any_eq_true.mpr ⟨z, mz, hz⟩)
    have hall : ∀ z ∈ sel zs, z.2 ≠ none := by
      intro z mz e
      exact hn (List.any_eq_true.mpr ⟨z, mz, by rw [e]; rfl⟩)
    have hne : ((sel zs).map fun z => z.2.getD 0 + z.1) ≠ [] := by simpa using hs
    obtain ⟨v, hv⟩ : ∃ v, maxI ((sel zs).map fun z => z.2.getD 0 + z.1) = some v := by
      cases e : ((sel zs).map fun z => z.2.getD 0 + z.1) with
      | nil => exact absurd e hne
      | cons x xs => exact ⟨_, rfl⟩
    have hmax : Blt.run .max [.lst (((sel zs).map fun z => z.2.getD 0 + z.1).map .int)] = some (.int v) := by rw [max_ints, hv]; rfl
    have hc : come zs = some v := by unfold come; rw [if_neg hn, hv]
    rw [h0, hc]
    simp only [List.map_nil, len_lst, needs_true, q_nil, e_if, e_bind_ok, e_opt, e_trv, e_trb, e_trt, x_int, t_bl, c_gt, List.length_nil, e_o_ok, e_isT, evS, x_blt, x_bsc, b_comp, q_int]
    simp
    rw [r_ct3 _ _ _ hall]
    simp only [needs_true, q_nil, e_if, e_bind_ok, e_opt, e_trv, x_bsn, hmax, e_o_ok, e_rt]
    simp [O.fin, fin, oD, tD, tO]

/-! ### ownC causes -/
def ownF (d : Int) : Option Int → Int
  | some t => if t ≤ d then d - t else -1
  | none => -1
def ownC (ts : List (Option Int)) (due : Option Int) : Option (List Int) := due.bind fun d => if 0 ≤ (maxI (ts.map (ownF d))).getD (-1) then some (ts.map (ownF d)) else none
def cD : Option (List Int) → D
  | none => .non
  | some xs => tD xs
def wD (w : List (Option Int) × Option Int) : D := .tup [tO w.1, oD w.2]
theorem r_oc1 (gl : Nat → Option D) (call : Nat → List D → R D) (ts : List (Option Int)) (d : Int) (w a c : D) :
    evM gl call (.comp (.ite (.and (.cmp .isn (.var 4) .non) (.cmp .le (.var 4) (.var 3))) (.bin .sub (.var 3) (.var 4)) (.neg (.int 1))) (.nm 4) (.froz 2) (.bl true) false [4]) .v
      [w, a, tO ts, .int d, c] = .ok (.lst ((ts.map (ownF d)).map .int)) [w, a, tO ts, .int d, .no] := by
  refine (comp_ok (fz := none) (ρ1 := [w, a, tO ts, .int d, c]) (ds := ts.map oD) (fun x => match x with
    | .int t => some (.int (ownF d (some t)))
    | _ => some (.int (-1))) ?_ ?_ rfl).trans ?_
  · simp [items, tO, D.still]
  · intro x hx
    obtain ⟨o, _, rfl⟩ := List.mem_map.mp hx
    cases o with
    | none => simp [cturn, stT, Ev.wipe, oD, tO]
    | some t =>
      by_cases h : t ≤ d <;> simp [cturn, stT, Ev.wipe, oD, tO, ownF, h]
  · congr 2
    rw [List.filterMap_map]
    induction ts with
    | nil => rfl
    | cons t ts ih =>
      have h1 : ownF d none = -1 := rfl
      cases t <;> simp [oD, h1] <;> simpa using ih

def cOwnCause : Ss := (.cons (.set (.tup (.cons (.nm 2) (.cons (.nm 3) .nil))) (.mov 0)) (.cons (.ite (.cmp .is (.var 3) .non) (.cons (.ret .non) .nil) .nil) (.cons (.set (.nm 1) (.blt .tuple (.cons (.comp (.ite (.and (.cmp .isn (.var 4) .non) (.cmp .le (.var 4) (.var 3))) (.bin .sub (.var 3) (.var 4)) (.neg (.int 1))) (.nm 4) (.froz 2) (.bl true) false [4]) .nil))) (.cons (.ret (.ite (.cmp .ge (.blt .max (.cons (.var 1) .nil)) (.int 0)) (.mov 1) .non)) .nil))))
theorem b_own_cause (gl : Nat → Option D) (call : Nat → List D → R D) (fl : Nat) (w : List (Option Int) × Option Int) (h : w.1 ≠ []) : (evSs gl call fl cOwnCause (okP [wD w]) [wD w, .no, .no, .no, .no]).fin [wD w] = .ok (cD (ownC w.1 w.2)) [wD w] := by
  obtain ⟨ts, due⟩ := w
  show (evSs gl call fl cOwnCause (okP [wD (ts, due)]) [wD (ts, due), .no, .no, .no, .no]).fin _ = _
  have him : D.immL [tO ts, oD due] = true := by simp [tO]
  cases due with
  | none => 
    unfold cOwnCause
    simp [evS, wD, tO, oD, stT, stTs, Tgs.len, okP, ownC, cD, O.fin, fin]
  | some d =>
    obtain ⟨v, hv⟩ := maxI_some (xs := ts.map (ownF d)) (by simpa using h)
    have hm : Blt.run .max [.tup ((ts.map (ownF d)).map .int)] = some (.int v) := by rw [max_tup, hv]; rfl
    unfold cOwnCause
    simp only [e_cons, evS]
    have e1 : evM gl call (.mov 0) .v [wD (ts, some d), .no, .no, .no, .no] = .ok (wD (ts, some d)) [wD (ts, some d), .no, .no, .no, .no] := by simp [wD, tO, oD]
    have e2 : stT (okP [wD (ts, some d)]) (.tup (.cons (.nm 2) (.cons (.nm 3) .nil))) (wD (ts, some d)) [wD (ts, some d), .no, .no, .no, .no] = some [wD (ts, some d), .no, tO ts, .int d, .no] := by simp [wD, stT, stTs, Tgs.len, okP, oD]
    rw [e1]
    simp only [e_o_ok, e2, e_optO, e_nx]
    simp only [x_cmp, x_var, rd_eq, x_non, x_blt, x_bsc, b_comp]
    simp
    rw [r_oc1]
    simp only [e_bind_ok, tup_lst, immL_ints, if_true, e_opt, e_o_ok]
    simp [stT, okP]
    have hm' : Blt.run .max [.tup (ts.map (D.int ∘ ownF d))] = some (.int v) := by rw [← hm, List.map_map]
    simp [hm']
    by_cases hv0 : 0 ≤ v
    · simp [hv0, ownC, hv, cD, O.fin, fin, wD, tO, tD]
    · simp [hv0, ownC, hv, cD, O.fin, fin, wD, tO, tD]

def pD (p : Nat × Nat) : D := .tup [.int (p.1 : Int), .int (p.2 : Int)]
abbrev Wish := List (Option Int) × Option Int

theorem wD_imm (w : Wish) : (wD w).imm = true := by simp [wD, tO]
theorem immL_wD (ws : List Wish) : D.immL (ws.map wD) = true := immL_of fun x m => by obtain ⟨w, _, rfl⟩ := List.mem_map.mp m; exact wD_imm w
theorem zip_fst {c : List Int} {ts : List (Option Int)} (h : c.length = ts.length) : (c.zip ts).map (·.1) = c := by rw [List.map_fst_zip]; omega
theorem zip_snd {c : List Int} {ts : List (Option Int)} (h : c.length = ts.length) : (c.zip ts).map (·.2) = ts := by rw [List.map_snd_zip]; omega

theorem own_len {w : Wish} {c : List Int} (h : ownC w.1 w.2 = some c) : c.length = w.1.length ∧ ∃ x ∈ c, 0 ≤ x := by
  obtain ⟨ts, due⟩ := w
  cases due with
  | none => cases h
  | some d =>
    simp only [ownC, Option.bind_some] at h
    split at h
    · rename_i hv
      cases h
      refine ⟨by simp, ?_⟩
      cases hm : maxI (ts.map (ownF d)) with
      | none => rw [hm] at hv; exact absurd hv (by decide)
      | some v =>
        rw [hm] at hv
        exact ⟨v, (maxI_mem hm).1, hv⟩
    · cases h
theorem sel_ne {c : List Int} {ts : List (Option Int)} (hl : c.length = ts.length) (h : ∃ x ∈ c, 0 ≤ x) : sel (c.zip ts) ≠ [] := by
  obtain ⟨x, mx, hx⟩ := h
  obtain ⟨i, hi, e⟩ := List.getElem_of_mem mx
  intro z
  have hz : i < (c.zip ts).length := by rw [List.length_zip]; omega
  have : (c.zip ts)[i] ∈ sel (c.zip ts) := List.mem_filter.mpr ⟨List.getElem_mem hz, by simp [e, hx]⟩
  rw [z] at this; cases this

theorem maxI_const {xs : List Int} (h : xs ≠ []) {v : Int} (e : ∀ x ∈ xs, x = v) : maxI xs = some v := by
  obtain ⟨u, hu⟩ := maxI_some h
  rw [hu, e u (maxI_mem hu).1]
theorem own_none_of {ts : List (Option Int)} {d : Int} (h : ∀ x ∈ ts.map (ownF d), x < 0) : ownC ts (some d) = none := by
  show (if 0 ≤ (maxI (ts.map (ownF d))).getD (-1) then _ else _) = _
  rw [if_neg]
  cases hm : maxI (ts.map (ownF d)) with
  | none => decide
  | some v => have := h v (maxI_mem hm).1; show ¬ 0 ≤ v; omega
theorem own_some_of {ts : List (Option Int)} {d : Int} {x : Int} (m : x ∈ ts.map (ownF d)) (h : 0 ≤ x) : ownC ts (some d) = some (ts.map (ownF d)) := by
  show (if 0 ≤ (maxI (ts.map (ownF d))).getD (-1) then _ else _) = _
  rw [if_pos]
  obtain ⟨v, hv⟩ := maxI_some (xs := ts.map (ownF d)) (List.ne_nil_of_mem m)
  rw [hv]
  have := (maxI_mem hv).2 x m
  show 0 ≤ v
  omega

theorem come_le {zs : List (Int × Option Int)} {x : Int} (h : come zs = some x) : ∀ z ∈ zs, 0 ≤ z.1 → ∃ t, z.2 = some t ∧ t + z.1 ≤ x := by
  intro z m hz
  have ms : z ∈ sel zs := List.mem_filter.mpr ⟨m, by simpa using hz⟩
  unfold come at h
  split at h
  · cases h
  · rename_i hn
    cases e : z.2 with
    | none => exact absurd (List.any_eq_true.mpr ⟨z, ms, by rw [e]; rfl⟩) hn
    | some t =>
      refine ⟨t, rfl, ?_⟩
      have := (maxI_mem h).2 (z.2.getD 0 + z.1) (List.mem_map.mpr ⟨z, ms, rfl⟩)
      rw [e] at this
      exact this
theorem le_come {zs : List (Int × Option Int)} {x : Int} (hs : sel zs ≠ []) (h : ∀ z ∈ zs, 0 ≤ z.1 → ∃ t, z.2 = some t ∧ t + z.1 ≤ x) : ∃ x', come zs = some x' ∧ x' ≤ x := by
  have hn : ¬ (sel zs).any (fun z => z.2.isNone) = true := by
    intro hh
    obtain ⟨z, m, hz⟩ := List.any_eq_true.mp hh
    obtain ⟨t, e, _⟩ := h z (List.mem_filter.mp m).1 (by simpa using (List.mem_filter.mp m).2)
    rw [e] at hz; cases hz
  obtain ⟨v, hv⟩ := maxI_some (xs := (sel zs).map fun z => z.2.getD 0 + z.1) (by simpa using hs)
  refine ⟨v, by unfold come; rw [if_neg hn, hv], ?_⟩
  obtain ⟨z, m, e⟩ := List.mem_map.mp (maxI_mem hv).1
  obtain ⟨t, e2, hl⟩ := h z (List.mem_filter.mp m).1 (by simpa using (List.mem_filter.mp m).2)
  rw [e2] at e
  have e : t + z.1 = v := e
  omega

end Ev
end

section
set_option linter.all false
set_option maxRecDepth 100000
/-! EvJ: the jar of numbers that laws draw from: a list of five. -/
namespace Ev
structure Jar where
  cur : Int
  ix : Nat
  turn : Int
  gs : List Int
  cs : List Int
def Jar.d (j : Jar) : D := .lst [.int j.cur, .int (j.ix : Int), .int j.turn, .lst (j.gs.map .int), .lst (j.cs.map .int)]
structure Jar.Ok (j : Jar) : Prop where
  cur : 0 ≤ j.cur
  gs : ∀ g ∈ j.gs, 0 ≤ g
  cs : j.cs ≠ []
/-- the numbers of a jar -/
structure JK where
  ka : Int
  kb : Int
  kc : Int
  kd : Int
  ke : Int
  kf : Int
  kg : Int
  kh : Int
structure JK.Ok (J : JK) : Prop where
  a : J.ka.natAbs < 2 ^ 64
  b : J.kb.natAbs < 2 ^ 64
  d : 0 < J.kd ∧ J.kd < 2 ^ 60
  e : J.ke.natAbs < 2 ^ 64
  f : J.kf.natAbs < 2 ^ 64
  g : J.kg ≠ 0
  h : J.kh ≠ 0 ∧ J.kh.natAbs < 1073741824
def mix (J : JK) (t c : Int) : Int := ((c * J.ka + t * J.kb + J.kc).fmod J.kd * (c * J.ka + t * J.kb + J.kc).fmod J.kd + t * J.ke + c * J.kf).fmod J.kg
def dip2 (J : JK) : Ss := (.cons (.ite (.cmp .gt (.idx (.var 0) (.int 0)) (.int 0)) (.cons (.set (.nm 6) (.bin .mod (.blt .int (.cons (.idx (.var 0) (.int 0)) .nil)) (.var 1))) (.cons (.put (.at (.root 0) (.int 0)) (.bin .fdiv (.idx (.var 0) (.int 0)) (.var 1))) (.cons (.ret (.mov 6)) .nil))) .nil) (.cons (.set (.nm 2) (.idx (.var 0) (.int 2))) (.cons (.set (.nm 3) (.idx (.idx (.var 0) (.int 4)) (.bin .mod (.blt .int (.cons (.var 2) .nil)) (.blt .len (.cons (.idx (.var 0) (.int 4)) .nil))))) (.cons (.set (.nm 4) (.bin .mod (.blt .int (.cons (.bin .add (.bin .add (.bin .mul (.var 3) (.int J.ka)) (.bin .mul (.var 2) (.int J.kb))) (.int J.kc)) .nil)) (.int J.kd))) (.cons (.set (.nm 5) (.bin .mod (.blt .int (.cons (.bin .add (.bin .add (.bin .mul (.var 4) (.var 4)) (.bin .mul (.var 2) (.int J.ke))) (.bin .mul (.var 3) (.int J.kf))) .nil)) (.int J.kg))) (.cons (.ret (.bin .mod (.blt .int (.cons (.bin .fdiv (.var 5) (.int J.kh)) .nil)) (.var 1))) .nil))))))
theorem r_dip2 (J : JK) (hJ : J.Ok) (fl : Nat) (gl : Nat → Option D) (call : Nat → List D → R D) (ok : Nat → Bool) (o : ∀ i, 2 ≤ i → ok i = true) (j : Jar) (hj : j.Ok) (m : Int) (h0 : 0 < m) (h1 : m < 1073741824) :
    ∃ (v : Int) (j' : Jar) (r : Env), 0 ≤ v ∧ v < m ∧ j'.Ok ∧ evSs gl call fl (dip2 J) ok [j.d, .int m, .no, .no, .no, .no, .no] = .rt (.int v) (j'.d :: .int m :: r) := by
  obtain ⟨cur, ix, turn, gs, cs⟩ := j
  have hm0 : m ≠ 0 := by omega
  have fm : ∀ (a : Int), 0 ≤ a.fmod m ∧ a.fmod m < m := fun a => ⟨Int.fmod_nonneg_of_pos a h0, Int.fmod_lt_of_pos a h0⟩
  have omod : ∀ a : Int, Op2.run .mod (.int a) (.int m) = some (.int (a.fmod m)) := fun a => o_mod hm0
  have odiv : ∀ a : Int, Op2.run .fdiv (.int a) (.int m) = some (.int (a.fdiv m)) := fun a => o_fdiv hm0 (by omega)
  by_cases hc : 0 < cur
  · refine ⟨cur.fmod m, ⟨cur.fdiv m, ix, turn, gs, cs⟩, [.no, .no, .no, .no, .int (cur.fmod m)], (fm cur).1, (fm cur).2, ⟨Int.fdiv_nonneg (by omega) (by omega), hj.gs, hj.cs⟩, ?_⟩
    unfold dip2
    simp [Jar.d, hc, omod, odiv, o]
  · obtain ⟨c, mc, hcell⟩ := item_mod hj.cs turn
    have hcell : D.item (.lst (cs.map .int)) (.int (turn.fmod (cs.length : Int))) = some (.int c) := hcell
    have hl : (cs.length : Int) ≠ 0 := by have := List.length_pos_iff.mpr hj.cs; simp at this ⊢; exact hj.cs
    have ol : ∀ a : Int, Op2.run .mod (.int a) (.int (cs.length : Int)) = some (.int (a.fmod cs.length)) := fun a => o_mod hl
    have m1 : ∀ a : Int, Op2.run .mul (.int a) (.int J.ka) = some (.int (a * J.ka)) := fun a => o_mul hJ.a
    have m2 : ∀ a : Int, Op2.run .mul (.int a) (.int J.kb) = some (.int (a * J.kb)) := fun a => o_mul hJ.b
    have m3 : ∀ a : Int, Op2.run .mul (.int a) (.int J.ke) = some (.int (a * J.ke)) := fun a => o_mul hJ.e
    have m4 : ∀ a : Int, Op2.run .mul (.int a) (.int J.kf) = some (.int (a * J.kf)) := fun a => o_mul hJ.f
    have d1 : ∀ a : Int, Op2.run .mod (.int a) (.int J.kd) = some (.int (a.fmod J.kd)) := fun a => o_mod (by have := hJ.d; omega)
    have d2 : ∀ a : Int, Op2.run .mod (.int a) (.int J.kg) = some (.int (a.fmod J.kg)) := fun a => o_mod hJ.g
    have d3 : ∀ a : Int, Op2.run .fdiv (.int a) (.int J.kh) = some (.int (a.fdiv J.kh)) := fun a => o_fdiv hJ.h.1 hJ.h.2
    have sq : ∀ a : Int, Op2.run .mul (.int (a.fmod J.kd)) (.int (a.fmod J.kd)) = some (.int (a.fmod J.kd * a.fmod J.kd)) := fun a => o_mul (by
      have q1 := Int.fmod_nonneg_of_pos a (b := J.kd) hJ.d.1
      have q2 := Int.fmod_lt_of_pos a (b := J.kd) hJ.d.1
      have := hJ.d
      omega)
    refine ⟨((mix J turn c).fdiv J.kh).fmod m, ⟨cur, ix, turn, gs, cs⟩, [.int turn, .int c, .int ((c * J.ka + turn * J.kb + J.kc).fmod J.kd), .int (mix J turn c), .no], (fm _).1, (fm _).2, hj, ?_⟩
    unfold dip2
    simp [Jar.d, hc, omod, o, hcell, ol, m1, m2, m3, m4, d1, d2, d3, sq, mix]
def dipA : S := (.put (.at (.root 0) (.int 2)) (.bin .add (.idx (.var 0) (.int 2)) (.int 1)))
def dipB : S := (.ite (.and (.cmp .eq (.idx (.var 0) (.int 0)) (.int 0)) (.cmp .lt (.idx (.var 0) (.int 1)) (.blt .len (.cons (.idx (.var 0) (.int 3)) .nil)))) (.cons (.put (.at (.root 0) (.int 0)) (.idx (.idx (.var 0) (.int 3)) (.idx (.var 0) (.int 1)))) (.cons (.put (.at (.root 0) (.int 1)) (.bin .add (.idx (.var 0) (.int 1)) (.int 1))) .nil)) .nil)
theorem r_dipA (fl : Nat) (gl : Nat → Option D) (call : Nat → List D → R D) (ok : Nat → Bool) (cur : Int) (ix : Nat) (turn : Int) (gs cs : List Int) (m : D) (r : Env) :
    evS gl call fl dipA ok ((Jar.mk cur ix turn gs cs).d :: m :: r) = .nx ((Jar.mk cur ix (turn + 1) gs cs).d :: m :: r) := by
  unfold dipA
  simp [Jar.d]
theorem r_dipB (fl : Nat) (gl : Nat → Option D) (call : Nat → List D → R D) (ok : Nat → Bool) (cur : Int) (ix : Nat) (turn : Int) (gs cs : List Int) (m : D) (r : Env) (hc : ¬ (cur = 0 ∧ ix < gs.length)) :
    evS gl call fl dipB ok ((Jar.mk cur ix turn gs cs).d :: m :: r) = .nx ((Jar.mk cur ix turn gs cs).d :: m :: r) := by
  unfold dipB
  by_cases h : cur = 0
  · have h2 : ¬ ix < gs.length := fun z => hc ⟨h, z⟩
    simp [Jar.d, h, h2]
  · simp [Jar.d, h]
theorem r_dipB2 (fl : Nat) (gl : Nat → Option D) (call : Nat → List D → R D) (ok : Nat → Bool) (ix : Nat) (turn : Int) (gs cs : List Int) (m : D) (r : Env) (hc : ix < gs.length) :
    evS gl call fl dipB ok ((Jar.mk 0 ix turn gs cs).d :: m :: r) = .nx ((Jar.mk gs[ix] (ix + 1) turn gs cs).d :: m :: r) := by
  unfold dipB
  simp [Jar.d, hc]
def cDip (J : JK) : Ss := .cons dipA (.cons dipB (dip2 J))
theorem b_dip (J : JK) (hJ : J.Ok) (gl : Nat → Option D) (call : Nat → List D → R D) (fl : Nat) (j : Jar) (hj : j.Ok) (m : Int) (h0 : 0 < m) (h1 : m < 1073741824) : ∃ (v : Int) (j' : Jar), 0 ≤ v ∧ v < m ∧ j'.Ok ∧ (evSs gl call fl (cDip J) (okP [j.d, .int m]) [j.d, .int m, .no, .no, .no, .no, .no]).fin [j.d, .int m] = .ok (.int v) [j'.d, .int m] := by
  obtain ⟨cur, ix, turn, gs, cs⟩ := j
  have o : ∀ i, 2 ≤ i → okP [(Jar.mk cur ix turn gs cs).d, .int m] i = true := fun i hi => by
    unfold okP
    rw [List.getElem?_eq_none (by simpa using hi)]
  -- behind the first two statements
  obtain ⟨j1, ok1, e1⟩ : ∃ j1 : Jar, j1.Ok ∧ evSs gl call fl (.cons dipA (.cons dipB (dip2 J))) (okP [(Jar.mk cur ix turn gs cs).d, .int m]) [(Jar.mk cur ix turn gs cs).d, .int m, .no, .no, .no, .no, .no] =
      evSs gl call fl (dip2 J) (okP [(Jar.mk cur ix turn gs cs).d, .int m]) [j1.d, .int m, .no, .no, .no, .no, .no] := by
    rw [e_cons, r_dipA, e_nx, e_cons]
    by_cases hc : cur = 0 ∧ ix < gs.length
    · obtain ⟨rfl, hi⟩ := hc
      exact ⟨⟨gs[ix], ix + 1, turn + 1, gs, cs⟩, ⟨hj.gs _ (List.getElem_mem hi), hj.gs, hj.cs⟩, by rw [r_dipB2 _ _ _ _ _ _ _ _ _ _ hi, e_nx]⟩
    · exact ⟨⟨cur, ix, turn + 1, gs, cs⟩, ⟨hj.cur, hj.gs, hj.cs⟩, by rw [r_dipB _ _ _ _ _ _ _ _ _ _ _ hc, e_nx]⟩
  obtain ⟨v, j', r, a1, a2, a3, a4⟩ := r_dip2 J hJ fl gl call _ o j1 ok1 m h0 h1
  refine ⟨v, j', a1, a2, a3, ?_⟩
  show (evSs gl call fl (.cons dipA (.cons dipB (dip2 J))) (okP [(Jar.mk cur ix turn gs cs).d, .int m]) [(Jar.mk cur ix turn gs cs).d, .int m, .no, .no, .no, .no, .no]).fin _ = _
  rw [e1, a4]
  rfl
def absI (i : Int) : Int := if i < 0 then -i else i
def greats (ns : List Int) : List Int := (ns.filter fun i => decide (1000000000000000000 ≤ absI i)).map absI
theorem r_jar1 (gl : Nat → Option D) (call : Nat → List D → R D) (k : Bool) (ns : List Int) (a b c : D) :
    evM gl call (.comp (.blt .abs (.cons (.var 3) .nil)) (.nm 3) (.froz 0) (.cmp .ge (.blt .abs (.cons (.var 3) .nil)) (.int 1000000000000000000)) true [3]) .v [.rol k (ns.map .int), a, b, c] =
      .ok (.lst ((greats ns).map .int)) [.rol k (ns.map .int), a, b, .no] := by
  refine (comp_ok (fz := none) (ρ1 := [.rol k (ns.map .int), a, b, c]) (ds := ns.map .int) (fun x => match x with
    | .int t => if 1000000000000000000 ≤ absI t then some (.int (absI t)) else none
    | _ => none) ?_ ?_ rfl).trans ?_
  · simp [items, D.still]
  · intro x hx
    obtain ⟨t, _, rfl⟩ := List.mem_map.mp hx
    have ha : Blt.run .abs [.int t] = some (.int (absI t)) := rfl
    by_cases h : 1000000000000000000 ≤ absI t <;> simp [-abs_int, cturn, Ev.wipe, ha, h]
  · congr 2
    rw [List.filterMap_map]
    unfold greats
    induction ns with
    | nil => rfl
    | cons t ns ih => by_cases h : 1000000000000000000 ≤ absI t <;> simp [h] <;> simpa using ih
theorem r_jar2 (kx : Int) (hx : kx ≠ 0) (gl : Nat → Option D) (call : Nat → List D → R D) (k : Bool) (ns : List Int) (a b c : D) :
    evM gl call (.comp (.bin .mod (.blt .int (.cons (.var 3) .nil)) (.int kx)) (.nm 3) (.froz 0) (.bl true) false [3]) .v [.rol k (ns.map .int), a, b, c] =
      .ok (.lst ((ns.map fun (i : Int) => i.fmod kx).map .int)) [.rol k (ns.map .int), a, b, .no] := by
  have om : ∀ i : Int, Op2.run .mod (.int i) (.int kx) = some (.int (i.fmod kx)) := fun i => o_mod hx
  refine (comp_ok (fz := none) (ρ1 := [.rol k (ns.map .int), a, b, c]) (ds := ns.map .int) (fun x => match x with
    | .int t => some (.int (t.fmod kx))
    | _ => none) ?_ ?_ rfl).trans ?_
  · simp [items, D.still]
  · intro x hx
    obtain ⟨t, _, rfl⟩ := List.mem_map.mp hx
    simp [cturn, Ev.wipe, om]
  · congr 2
    rw [List.filterMap_map]
    induction ns with
    | nil => rfl
    | cons t ns ih => simp; simpa using ih
def cJar (kx ky : Int) : Ss := (.cons (.set (.nm 1) (.comp (.blt .abs (.cons (.var 3) .nil)) (.nm 3) (.froz 0) (.cmp .ge (.blt .abs (.cons (.var 3) .nil)) (.int 1000000000000000000)) true [3])) (.cons (.set (.nm 2) (.bin .add (.comp (.bin .mod (.blt .int (.cons (.var 3) .nil)) (.int kx)) (.nm 3) (.froz 0) (.bl true) false [3]) (.lst (.cons (.int ky) .nil)))) (.cons (.ret (.lst (.cons (.int 0) (.cons (.int 0) (.cons (.int 0) (.cons (.mov 1) (.cons (.mov 2) .nil))))))) .nil)))
theorem b_jar (kx ky : Int) (hx : kx ≠ 0) (gl : Nat → Option D) (call : Nat → List D → R D) (fl : Nat) (k : Bool) (ns : List Int) (h : ns.length ≤ 63) : ∃ j : Jar, j.Ok ∧ (evSs gl call fl (cJar kx ky) (okP [.rol k (ns.map .int)]) [.rol k (ns.map .int), .no, .no, .no]).fin [.rol k (ns.map .int)] = .ok j.d [.rol k (ns.map .int)] := by
  refine ⟨⟨0, 0, 0, greats ns, (ns.map fun (i : Int) => i.fmod kx) ++ [ky]⟩, ⟨Int.le_refl _, fun g hg => ?_, by simp⟩, ?_⟩
  · obtain ⟨i, _, rfl⟩ := List.mem_map.mp hg
    show 0 ≤ absI i
    unfold absI
    split <;> omega
  · show (evSs gl call fl (cJar kx ky) (okP [.rol k (ns.map .int)]) [.rol k (ns.map .int), .no, .no, .no]).fin _ = _
    have o : ∀ i, 1 ≤ i → okP [.rol k (ns.map .int)] i = true := fun i hi => by
      unfold okP
      rw [List.getElem?_eq_none (by simpa using hi)]
    have oadd : Op2.run .add (.lst ((ns.map fun (i : Int) => i.fmod kx).map .int)) (.lst [.int ky]) = some (.lst (((ns.map fun (i : Int) => i.fmod kx) ++ [ky]).map .int)) := by
      show (if _ then _ else _) = _
      rw [if_pos ⟨small (by simp; omega), immL_ints _, rfl⟩, List.map_append]; rfl
    unfold cJar
    rw [e_cons, u_set, r_jar1]
    simp only [e_o_ok, st_nm, List.length_cons, List.length_nil, o 1 (by omega)]
    simp only [Nat.reduceAdd, Nat.reduceLT, and_self, if_true, e_optO, e_nx, List.set_cons_succ, List.set_cons_zero]
    rw [e_cons, u_set, x_bin, b_comp, r_jar2 kx hx]
    simp [-List.map_map, -List.map_append, o, oadd, Jar.d, O.fin, fin]

end Ev
end

section
set_option Elab.async false
set_option linter.all false
set_option maxRecDepth 100000
namespace K
open PySem L2 Ev PyProof.Rows
/-- is_whole(thing) : 0=thing -/
def c_is_whole : Ev.Ss := (.cons (.ret (.and (.isi (.var 0) .int) (.not (.isi (.var 0) .bool)))) .nil)
def n_is_whole : List PySem.Str := [(PySem.Str.ofString "thing")]
def d_is_whole : Ev.Def := ⟨1, 1, c_is_whole⟩
@[reducible] def f_is_whole : Nat := 0
/-- is_number(thing) : 0=thing -/
def c_is_number : Ev.Ss := (.cons (.ret (.and (.call 0 (.cons (.lend 0) .nil)) (.cmp .ge (.var 0) (.int 0)))) .nil)
def n_is_number : List PySem.Str := [(PySem.Str.ofString "thing")]
def d_is_number : Ev.Def := ⟨1, 1, c_is_number⟩
@[reducible] def f_is_number : Nat := 1
/-- is_row(thing, many) : 0=thing 1=many -/
def c_is_row : Ev.Ss := (.cons (.ret (.and (.isi (.var 0) .tuple) (.cmp .eq (.blt .len (.cons (.var 0) .nil)) (.var 1)))) .nil)
def n_is_row : List PySem.Str := [(PySem.Str.ofString "thing"), (PySem.Str.ofString "many")]
def d_is_row : Ev.Def := ⟨2, 2, c_is_row⟩
@[reducible] def f_is_row : Nat := 2
/-- cause_time(cause, times) : 0=cause 1=times 2=told 3=at 4=time 5=delay -/
def c_cause_time : Ev.Ss := (.cons (.set (.nm 2) (.comp (.tup (.cons (.idx (.var 1) (.var 3)) (.cons (.idx (.var 0) (.var 3)) .nil))) (.nm 3) (.rng1 (.blt .len (.cons (.var 0) .nil))) (.cmp .ge (.idx (.var 0) (.var 3)) (.int 0)) true [3])) (.cons (.ite (.cmp .gt (.blt .len (.cons (.comp (.var 4) (.tup (.cons (.nm 4) (.cons (.nm 5) .nil))) (.froz 2) (.cmp .is (.var 4) .non) true [4, 5]) .nil)) (.int 0)) (.cons (.ret .non) .nil) .nil) (.cons (.ret (.blt .max (.cons (.comp (.bin .add (.var 4) (.var 5)) (.tup (.cons (.nm 4) (.cons (.nm 5) .nil))) (.froz 2) (.bl true) false [4, 5]) .nil))) .nil)))
def n_cause_time : List PySem.Str := [(PySem.Str.ofString "cause"), (PySem.Str.ofString "times"), (PySem.Str.ofString "told"), (PySem.Str.ofString "at"), (PySem.Str.ofString "time"), (PySem.Str.ofString "delay")]
def d_cause_time : Ev.Def := ⟨2, 6, c_cause_time⟩
@[reducible] def f_cause_time : Nat := 3
/-- list_time(causes, times) : 0=causes 1=times 2=told 3=cause 4=time -/
def c_list_time : Ev.Ss := (.cons (.set (.nm 2) (.comp (.call 3 (.cons (.lend 3) (.cons (.lend 1) .nil))) (.nm 3) (.froz 0) (.bl true) false [3])) (.cons (.set (.nm 2) (.comp (.var 4) (.nm 4) (.froz 2) (.cmp .isn (.var 4) .non) true [4])) (.cons (.ret (.ite (.cmp .gt (.blt .len (.cons (.var 2) .nil)) (.int 0)) (.blt .min (.cons (.var 2) .nil)) .non)) .nil)))
def n_list_time : List PySem.Str := [(PySem.Str.ofString "causes"), (PySem.Str.ofString "times"), (PySem.Str.ofString "told"), (PySem.Str.ofString "cause"), (PySem.Str.ofString "time")]
def d_list_time : Ev.Def := ⟨2, 5, c_list_time⟩
@[reducible] def f_list_time : Nat := 4
/-- is_time(thing) : 0=thing -/
def c_is_time : Ev.Ss := (.cons (.ret (.or (.cmp .is (.var 0) .non) (.call 1 (.cons (.lend 0) .nil)))) .nil)
def n_is_time : List PySem.Str := [(PySem.Str.ofString "thing")]
def d_is_time : Ev.Def := ⟨1, 1, c_is_time⟩
@[reducible] def f_is_time : Nat := 5
/-- are_times(many, thing) : 0=many 1=thing 2=time -/
def c_are_times : Ev.Ss := (.cons (.ret (.and (.call 2 (.cons (.lend 1) (.cons (.lend 0) .nil))) (.cmp .eq (.blt .len (.cons (.comp (.var 2) (.nm 2) (.froz 1) (.not (.call 5 (.cons (.lend 2) .nil))) true [2]) .nil)) (.int 0)))) .nil)
def n_are_times : List PySem.Str := [(PySem.Str.ofString "many"), (PySem.Str.ofString "thing"), (PySem.Str.ofString "time")]
def d_are_times : Ev.Def := ⟨2, 3, c_are_times⟩
@[reducible] def f_are_times : Nat := 6
/-- are_wishes(many, thing) : 0=many 1=thing 2=pair -/
def c_are_wishes : Ev.Ss := (.cons (.ite (.not (.isi (.var 1) .tuple)) (.cons (.ret (.bl false)) .nil) .nil) (.cons (.loop (.nm 2) (.froz 1) (.cons (.ite (.or (.not (.call 2 (.cons (.lend 2) (.cons (.int 2) .nil)))) (.or (.not (.call 6 (.cons (.lend 0) (.cons (.idx (.var 2) (.int 0)) .nil)))) (.not (.call 5 (.cons (.idx (.var 2) (.int 1)) .nil))))) (.cons (.ret (.bl false)) .nil) .nil) .nil)) (.cons (.ret (.bl true)) .nil)))
def n_are_wishes : List PySem.Str := [(PySem.Str.ofString "many"), (PySem.Str.ofString "thing"), (PySem.Str.ofString "pair")]
def d_are_wishes : Ev.Def := ⟨2, 3, c_are_wishes⟩
@[reducible] def f_are_wishes : Nat := 7
/-- meets(causes, wishes) : 0=causes 1=wishes 2=times 3=due -/
def c_meets : Ev.Ss := (.cons (.ret (.cmp .eq (.blt .len (.cons (.comp (.var 3) (.tup (.cons (.nm 2) (.cons (.nm 3) .nil))) (.froz 1) (.cmp .ne (.call 4 (.cons (.lend 0) (.cons (.lend 2) .nil))) (.var 3)) true [2, 3]) .nil)) (.int 0))) .nil)
def n_meets : List PySem.Str := [(PySem.Str.ofString "causes"), (PySem.Str.ofString "wishes"), (PySem.Str.ofString "times"), (PySem.Str.ofString "due")]
def d_meets : Ev.Def := ⟨2, 4, c_meets⟩
@[reducible] def f_meets : Nat := 8
/-- own_cause(wish) : 0=wish 1=found 2=times 3=due 4=time -/
def c_own_cause : Ev.Ss := (.cons (.set (.tup (.cons (.nm 2) (.cons (.nm 3) .nil))) (.mov 0)) (.cons (.ite (.cmp .is (.var 3) .non) (.cons (.ret .non) .nil) .nil) (.cons (.set (.nm 1) (.blt .tuple (.cons (.comp (.ite (.and (.cmp .isn (.var 4) .non) (.cmp .le (.var 4) (.var 3))) (.bin .sub (.var 3) (.var 4)) (.neg (.int 1))) (.nm 4) (.froz 2) (.bl true) false [4]) .nil))) (.cons (.ret (.ite (.cmp .ge (.blt .max (.cons (.var 1) .nil)) (.int 0)) (.mov 1) .non)) .nil))))
def n_own_cause : List PySem.Str := [(PySem.Str.ofString "wish"), (PySem.Str.ofString "found"), (PySem.Str.ofString "times"), (PySem.Str.ofString "due"), (PySem.Str.ofString "time")]
def d_own_cause : Ev.Def := ⟨1, 5, c_own_cause⟩
@[reducible] def f_own_cause : Nat := 9
/-- _law_bowl(script) : 0=script 1=greats 2=cells 3=cell -/
def c__law_bowl : Ev.Ss := (.cons (.set (.nm 1) (.comp (.blt .abs (.cons (.var 3) .nil)) (.nm 3) (.froz 0) (.cmp .ge (.blt .abs (.cons (.var 3) .nil)) (.int 1000000000000000000)) true [3])) (.cons (.set (.nm 2) (.bin .add (.comp (.bin .mod (.blt .int (.cons (.var 3) .nil)) (.int 2147483549)) (.nm 3) (.froz 0) (.bl true) false [3]) (.lst (.cons (.int 21247) .nil)))) (.cons (.ret (.lst (.cons (.int 0) (.cons (.int 0) (.cons (.int 0) (.cons (.mov 1) (.cons (.mov 2) .nil))))))) .nil)))
def n__law_bowl : List PySem.Str := [(PySem.Str.ofString "script"), (PySem.Str.ofString "greats"), (PySem.Str.ofString "cells"), (PySem.Str.ofString "cell")]
def d__law_bowl : Ev.Def := ⟨1, 4, c__law_bowl⟩
@[reducible] def f__law_bowl : Nat := 10
/-- _law_scoop(bowl, many) : 0=bowl 1=many 2=turn 3=cell 4=one 5=two 6=got -/
def c__law_scoop : Ev.Ss := (.cons (.put (.at (.root 0) (.int 2)) (.bin .add (.idx (.var 0) (.int 2)) (.int 1))) (.cons (.ite (.and (.cmp .eq (.idx (.var 0) (.int 0)) (.int 0)) (.cmp .lt (.idx (.var 0) (.int 1)) (.blt .len (.cons (.idx (.var 0) (.int 3)) .nil)))) (.cons (.put (.at (.root 0) (.int 0)) (.idx (.idx (.var 0) (.int 3)) (.idx (.var 0) (.int 1)))) (.cons (.put (.at (.root 0) (.int 1)) (.bin .add (.idx (.var 0) (.int 1)) (.int 1))) .nil)) .nil) (.cons (.ite (.cmp .gt (.idx (.var 0) (.int 0)) (.int 0)) (.cons (.set (.nm 6) (.bin .mod (.blt .int (.cons (.idx (.var 0) (.int 0)) .nil)) (.var 1))) (.cons (.put (.at (.root 0) (.int 0)) (.bin .fdiv (.idx (.var 0) (.int 0)) (.var 1))) (.cons (.ret (.mov 6)) .nil))) .nil) (.cons (.set (.nm 2) (.idx (.var 0) (.int 2))) (.cons (.set (.nm 3) (.idx (.idx (.var 0) (.int 4)) (.bin .mod (.blt .int (.cons (.var 2) .nil)) (.blt .len (.cons (.idx (.var 0) (.int 4)) .nil))))) (.cons (.set (.nm 4) (.bin .mod (.blt .int (.cons (.bin .add (.bin .add (.bin .mul (.var 3) (.int 40009)) (.bin .mul (.var 2) (.int 80447))) (.int 3253)) .nil)) (.int 1000117))) (.cons (.set (.nm 5) (.bin .mod (.blt .int (.cons (.bin .add (.bin .add (.bin .mul (.var 4) (.var 4)) (.bin .mul (.var 2) (.int 499))) (.bin .mul (.var 3) (.int 7))) .nil)) (.int 920419823))) (.cons (.ret (.bin .mod (.blt .int (.cons (.bin .fdiv (.var 5) (.int 128)) .nil)) (.var 1))) .nil))))))))
def n__law_scoop : List PySem.Str := [(PySem.Str.ofString "bowl"), (PySem.Str.ofString "many"), (PySem.Str.ofString "turn"), (PySem.Str.ofString "cell"), (PySem.Str.ofString "one"), (PySem.Str.ofString "two"), (PySem.Str.ofString "got")]
def d__law_scoop : Ev.Def := ⟨2, 7, c__law_scoop⟩
@[reducible] def f__law_scoop : Nat := 11
/-- _law_same(told, due) : 0=told 1=due 2=k -/
def c__law_same : Ev.Ss := (.cons (.ite (.cmp .is (.var 1) .non) (.cons (.ret (.cmp .is (.var 0) .non)) .nil) .nil) (.cons (.ite (.or (.not (.isi (.var 0) .tuple)) (.cmp .ne (.blt .len (.cons (.var 0) .nil)) (.blt .len (.cons (.var 1) .nil)))) (.cons (.ret (.bl false)) .nil) .nil) (.cons (.loop (.nm 2) (.rng1 (.blt .len (.cons (.var 1) .nil))) (.cons (.ite (.or (.not (.isi (.idx (.var 0) (.var 2)) .int)) (.or (.isi (.idx (.var 0) (.var 2)) .bool) (.cmp .ne (.idx (.var 0) (.var 2)) (.idx (.var 1) (.var 2))))) (.cons (.ret (.bl false)) .nil) .nil) .nil)) (.cons (.ret (.bl true)) .nil))))
def n__law_same : List PySem.Str := [(PySem.Str.ofString "told"), (PySem.Str.ofString "due"), (PySem.Str.ofString "k")]
def d__law_same : Ev.Def := ⟨2, 3, c__law_same⟩
@[reducible] def f__law_same : Nat := 12
/-- _law_truth(told, due) : 0=told 1=due -/
def c__law_truth : Ev.Ss := (.cons (.ret (.and (.isi (.var 0) .bool) (.cmp .eq (.var 0) (.var 1)))) .nil)
def n__law_truth : List PySem.Str := [(PySem.Str.ofString "told"), (PySem.Str.ofString "due")]
def d__law_truth : Ev.Def := ⟨2, 2, c__law_truth⟩
@[reducible] def f__law_truth : Nat := 13
/-- _law_own(times, due) : 0=times 1=due 2=cause 3=time -/
def c__law_own : Ev.Ss := (.cons (.ite (.cmp .is (.var 1) .non) (.cons (.ret .non) .nil) .nil) (.cons (.set (.nm 2) (.lst .nil)) (.cons (.loop (.nm 3) (.froz 0) (.cons (.ite (.or (.cmp .is (.var 3) .non) (.cmp .gt (.var 3) (.var 1))) (.cons (.ex (.mth .append (.root 2) (.cons (.neg (.int 1)) .nil))) .nil) (.cons (.ex (.mth .append (.root 2) (.cons (.bin .sub (.var 1) (.var 3)) .nil))) .nil)) .nil)) (.cons (.ite (.cmp .lt (.blt .max (.cons (.var 2) .nil)) (.int 0)) (.cons (.ret .non) .nil) .nil) (.cons (.ret (.blt .tuple (.cons (.var 2) .nil))) .nil)))))
def n__law_own : List PySem.Str := [(PySem.Str.ofString "times"), (PySem.Str.ofString "due"), (PySem.Str.ofString "cause"), (PySem.Str.ofString "time")]
def d__law_own : Ev.Def := ⟨2, 4, c__law_own⟩
@[reducible] def f__law_own : Nat := 14
/-- _law_time(causes, times) : 0=causes 1=times 2=best 3=cause 4=come 5=k -/
def c__law_time : Ev.Ss := (.cons (.set (.nm 2) .non) (.cons (.loop (.nm 3) (.froz 0) (.cons (.set (.nm 4) (.int 0)) (.cons (.loop (.nm 5) (.rng1 (.blt .len (.cons (.var 3) .nil))) (.cons (.ite (.and (.cmp .ge (.idx (.var 3) (.var 5)) (.int 0)) (.cmp .isn (.var 4) .non)) (.cons (.ite (.cmp .is (.idx (.var 1) (.var 5)) .non) (.cons (.set (.nm 4) .non) .nil) (.cons (.set (.nm 4) (.blt .max (.cons (.var 4) (.cons (.bin .add (.idx (.var 1) (.var 5)) (.idx (.var 3) (.var 5))) .nil)))) .nil)) .nil) .nil) .nil)) (.cons (.ite (.and (.cmp .isn (.var 4) .non) (.or (.cmp .is (.var 2) .non) (.cmp .lt (.var 4) (.var 2)))) (.cons (.set (.nm 2) (.mov 4)) .nil) .nil) .nil)))) (.cons (.ret (.mov 2)) .nil)))
def n__law_time : List PySem.Str := [(PySem.Str.ofString "causes"), (PySem.Str.ofString "times"), (PySem.Str.ofString "best"), (PySem.Str.ofString "cause"), (PySem.Str.ofString "come"), (PySem.Str.ofString "k")]
def d__law_time : Ev.Def := ⟨2, 6, c__law_time⟩
@[reducible] def f__law_time : Nat := 15
/-- _law_list(bowl, many, great) : 0=bowl 1=many 2=great 3=found 4=lap 5=kept 6=cause 7=k 8=good 9=other 10=part -/
def c__law_list : Ev.Ss := (.cons (.set (.nm 3) (.lst .nil)) (.cons (.loop (.nm 4) (.rng1 (.idx (.lst (.cons (.int 2) (.cons (.int 3) (.cons (.int 1) (.cons (.int 5) .nil))))) (.call 11 (.cons (.lend 0) (.cons (.int 4) .nil))))) (.cons (.set (.nm 6) (.lst .nil)) (.cons (.loop (.nm 7) (.rng1 (.var 1)) (.cons (.set (.nm 10) (.call 11 (.cons (.lend 0) (.cons (.lend 2) .nil)))) (.cons (.ite (.cmp .eq (.call 11 (.cons (.lend 0) (.cons (.int 3) .nil))) (.int 2)) (.cons (.set (.nm 10) (.neg (.int 1))) .nil) .nil) (.cons (.ex (.mth .append (.root 6) (.cons (.mov 10) .nil))) .nil)))) (.cons (.ite (.cmp .lt (.blt .max (.cons (.var 6) .nil)) (.int 0)) (.cons (.putr 6 (.call 11 (.cons (.lend 0) (.cons (.lend 1) .nil))) (.call 11 (.cons (.lend 0) (.cons (.lend 2) .nil)))) .nil) .nil) (.cons (.ex (.mth .append (.root 3) (.cons (.blt .tuple (.cons (.var 6) .nil)) .nil))) .nil))))) (.cons (.set (.nm 5) (.lst .nil)) (.cons (.loop (.nm 6) (.seq (.srt (.var 3))) (.cons (.set (.nm 8) (.bl true)) (.cons (.loop (.nm 9) (.froz 5) (.cons (.ite (.cmp .le (.blt .max (.cons (.comp (.bin .sub (.idx (.var 9) (.var 7)) (.idx (.var 6) (.var 7))) (.nm 7) (.rng1 (.var 1)) (.bl true) false [7]) .nil)) (.int 0)) (.cons (.set (.nm 8) (.bl false)) .nil) .nil) .nil)) (.cons (.ite (.var 8) (.cons (.ex (.mth .append (.root 5) (.cons (.mov 6) .nil))) .nil) .nil) .nil)))) (.cons (.ret (.blt .tuple (.cons (.var 5) .nil))) .nil)))))
def n__law_list : List PySem.Str := [(PySem.Str.ofString "bowl"), (PySem.Str.ofString "many"), (PySem.Str.ofString "great"), (PySem.Str.ofString "found"), (PySem.Str.ofString "lap"), (PySem.Str.ofString "kept"), (PySem.Str.ofString "cause"), (PySem.Str.ofString "k"), (PySem.Str.ofString "good"), (PySem.Str.ofString "other"), (PySem.Str.ofString "part")]
def d__law_list : Ev.Def := ⟨3, 11, c__law_list⟩
@[reducible] def f__law_list : Nat := 16
/-- _law_times(bowl, many, great) : 0=bowl 1=many 2=great 3=row 4=k 5=time -/
def c__law_times : Ev.Ss := (.cons (.set (.nm 3) (.lst .nil)) (.cons (.loop (.nm 4) (.rng1 (.var 1)) (.cons (.set (.nm 5) (.call 11 (.cons (.lend 0) (.cons (.lend 2) .nil)))) (.cons (.ite (.cmp .eq (.call 11 (.cons (.lend 0) (.cons (.int 5) .nil))) (.int 4)) (.cons (.set (.nm 5) .non) .nil) .nil) (.cons (.ex (.mth .append (.root 3) (.cons (.mov 5) .nil))) .nil)))) (.cons (.ret (.blt .tuple (.cons (.var 3) .nil))) .nil)))
def n__law_times : List PySem.Str := [(PySem.Str.ofString "bowl"), (PySem.Str.ofString "many"), (PySem.Str.ofString "great"), (PySem.Str.ofString "row"), (PySem.Str.ofString "k"), (PySem.Str.ofString "time")]
def d__law_times : Ev.Def := ⟨3, 6, c__law_times⟩
@[reducible] def f__law_times : Nat := 17
/-- _law_asked(times, due) : 0=times 1=due -/
def c__law_asked : Ev.Ss := (.cons (.ret (.call 12 (.cons (.call 9 (.cons (.tup (.cons (.mov 0) (.cons (.mov 1) .nil))) .nil)) (.cons (.call 14 (.cons (.lend 0) (.cons (.lend 1) .nil))) .nil)))) .nil)
def n__law_asked : List PySem.Str := [(PySem.Str.ofString "times"), (PySem.Str.ofString "due")]
def d__law_asked : Ev.Def := ⟨2, 2, c__law_asked⟩
@[reducible] def f__law_asked : Nat := 18
/-- _law_own_asked(bowl, many, great) : 0=bowl 1=many 2=great 3=times 4=at 5=due 6=late 7=time -/
def c__law_own_asked : Ev.Ss := (.cons (.set (.nm 3) (.blt .list (.cons (.call 17 (.cons (.lend 0) (.cons (.lend 1) (.cons (.lend 2) .nil)))) .nil))) (.cons (.set (.nm 4) (.call 11 (.cons (.lend 0) (.cons (.lend 1) .nil)))) (.cons (.put (.at (.root 3) (.var 4)) (.call 11 (.cons (.lend 0) (.cons (.lend 2) .nil)))) (.cons (.set (.nm 3) (.blt .tuple (.cons (.var 3) .nil))) (.cons (.loop (.nm 5) (.seq (.lst (.cons (.idx (.var 3) (.var 4)) (.cons (.bin .add (.idx (.var 3) (.var 4)) (.call 11 (.cons (.lend 0) (.cons (.int 4) .nil)))) (.cons (.blt .max (.cons (.bin .sub (.idx (.var 3) (.var 4)) (.int 1)) (.cons (.int 0) .nil))) (.cons .non (.cons (.call 11 (.cons (.lend 0) (.cons (.lend 2) .nil))) .nil))))))) (.cons (.ite (.not (.call 18 (.cons (.lend 3) (.cons (.lend 5) .nil)))) (.cons (.ret (.bl false)) .nil) .nil) .nil)) (.cons (.set (.nm 5) (.call 11 (.cons (.lend 0) (.cons (.lend 2) .nil)))) (.cons (.set (.nm 6) (.blt .tuple (.cons (.comp (.ite (.cmp .isn (.var 7) .non) (.bin .add (.bin .add (.var 7) (.var 5)) (.int 1)) .non) (.nm 7) (.froz 3) (.bl true) false [7]) .nil))) (.cons (.ite (.or (.not (.call 18 (.cons (.lend 6) (.cons (.lend 5) .nil)))) (.or (.not (.call 18 (.cons (.bin .mul (.tup (.cons .non .nil)) (.var 1)) (.cons (.lend 5) .nil)))) (.not (.call 18 (.cons (.bin .mul (.tup (.cons (.int 0) .nil)) (.var 1)) (.cons (.int 0) .nil)))))) (.cons (.ret (.bl false)) .nil) .nil) (.cons (.ret (.call 12 (.cons (.callk 9 0 [0] (.cons (.tup (.cons (.mov 6) (.cons (.bin .add (.bin .add (.var 5) (.idx (.var 3) (.var 4))) (.int 1)) .nil))) .nil)) (.cons (.call 14 (.cons (.lend 6) (.cons (.bin .add (.bin .add (.var 5) (.idx (.var 3) (.var 4))) (.int 1)) .nil))) .nil)))) .nil)))))))))
def n__law_own_asked : List PySem.Str := [(PySem.Str.ofString "bowl"), (PySem.Str.ofString "many"), (PySem.Str.ofString "great"), (PySem.Str.ofString "times"), (PySem.Str.ofString "at"), (PySem.Str.ofString "due"), (PySem.Str.ofString "late"), (PySem.Str.ofString "time")]
def d__law_own_asked : Ev.Def := ⟨3, 8, c__law_own_asked⟩
@[reducible] def f__law_own_asked : Nat := 19
/-- _law_changed(bowl, wishes, great) : 0=bowl 1=wishes 2=great 3=at 4=times 5=due 6=way 7=fresh -/
def c__law_changed : Ev.Ss := (.cons (.set (.nm 3) (.call 11 (.cons (.lend 0) (.cons (.blt .len (.cons (.var 1) .nil)) .nil)))) (.cons (.set (.nm 4) (.idx (.idx (.var 1) (.var 3)) (.int 0))) (.cons (.set (.nm 5) (.idx (.idx (.var 1) (.var 3)) (.int 1))) (.cons (.set (.nm 6) (.call 11 (.cons (.lend 0) (.cons (.int 3) .nil)))) (.cons (.ite (.cmp .is (.var 5) .non) (.cons (.set (.nm 7) (.idx (.lst (.cons (.int 0) (.cons (.call 11 (.cons (.lend 0) (.cons (.lend 2) .nil))) (.cons (.int 99999) .nil)))) (.var 6))) .nil) (.cons (.set (.nm 7) (.idx (.lst (.cons (.bin .add (.var 5) (.int 1)) (.cons .non (.cons (.bin .add (.blt .max (.cons (.bin .sub (.var 5) (.int 1)) (.cons (.int 0) .nil))) (.bin .mul (.int 2) (.blt .int (.cons (.cmp .eq (.var 5) (.int 0)) .nil)))) .nil)))) (.var 6))) .nil)) (.cons (.ret (.bin .add (.bin .add (.slc (.var 1) .part (.var 3)) (.tup (.cons (.tup (.cons (.mov 4) (.cons (.mov 7) .nil))) .nil))) (.slc (.var 1) (.bin .add (.var 3) (.int 1)) .part))) .nil))))))
def n__law_changed : List PySem.Str := [(PySem.Str.ofString "bowl"), (PySem.Str.ofString "wishes"), (PySem.Str.ofString "great"), (PySem.Str.ofString "at"), (PySem.Str.ofString "times"), (PySem.Str.ofString "due"), (PySem.Str.ofString "way"), (PySem.Str.ofString "fresh")]
def d__law_changed : Ev.Def := ⟨3, 8, c__law_changed⟩
@[reducible] def f__law_changed : Nat := 20
/-- _law_meets_asked(bowl, causes, wishes, great) : 0=bowl 1=causes 2=wishes 3=great 4=nevers 5=never 6=at 7=less 8=due 9=pair -/
def c__law_meets_asked : Ev.Ss := (.cons (.ite (.or (.cmp .isn (.call 8 (.cons (.lend 1) (.cons (.lend 2) .nil))) (.bl true)) (.cmp .isn (.call 8 (.cons (.lend 1) (.cons (.call 20 (.cons (.lend 0) (.cons (.lend 2) (.cons (.lend 3) .nil)))) .nil))) (.bl false))) (.cons (.ret (.bl false)) .nil) .nil) (.cons (.set (.nm 4) (.blt .tuple (.cons (.comp (.tup (.cons (.idx (.var 9) (.int 0)) (.cons .non .nil))) (.nm 9) (.froz 2) (.bl true) false [9]) .nil))) (.cons (.ite (.or (.cmp .isn (.call 8 (.cons (.tup .nil) (.cons (.lend 4) .nil))) (.bl true)) (.cmp .isn (.call 8 (.cons (.tup .nil) (.cons (.bin .add (.slc (.var 4) (.int 1) .part) (.tup (.cons (.tup (.cons (.idx (.idx (.var 2) (.int 0)) (.int 0)) (.cons (.int 3) .nil))) .nil))) .nil))) (.bl false))) (.cons (.ret (.bl false)) .nil) .nil) (.cons (.set (.nm 5) (.cmp .eq (.blt .len (.cons (.comp (.var 9) (.nm 9) (.froz 2) (.cmp .isn (.idx (.var 9) (.int 1)) .non) true [9]) .nil)) (.int 0))) (.cons (.ite (.not (.call 13 (.cons (.call 8 (.cons (.lend 1) (.cons (.lend 4) .nil))) (.cons (.lend 5) .nil)))) (.cons (.ret (.bl false)) .nil) .nil) (.cons (.set (.nm 6) (.call 11 (.cons (.lend 0) (.cons (.blt .len (.cons (.var 1) .nil)) .nil)))) (.cons (.set (.nm 7) (.bin .add (.slc (.var 1) .part (.var 6)) (.slc (.var 1) (.bin .add (.var 6) (.int 1)) .part))) (.cons (.set (.nm 8) (.bl true)) (.cons (.loop (.nm 9) (.froz 2) (.cons (.ite (.cmp .ne (.call 15 (.cons (.lend 7) (.cons (.idx (.var 9) (.int 0)) .nil))) (.idx (.var 9) (.int 1))) (.cons (.set (.nm 8) (.bl false)) .nil) .nil) .nil)) (.cons (.ite (.or (.not (.call 13 (.cons (.call 8 (.cons (.lend 7) (.cons (.lend 2) .nil))) (.cons (.lend 8) .nil)))) (.cmp .isn (.callk 8 0 [1, 0] (.cons (.tup .nil) (.cons (.lend 1) .nil))) (.bl true))) (.cons (.ret (.bl false)) .nil) .nil) (.cons (.ret (.cmp .is (.call 8 (.cons (.lend 1) (.cons (.bin .add (.var 2) (.call 20 (.cons (.lend 0) (.cons (.lend 2) (.cons (.lend 3) .nil))))) .nil))) (.bl false))) .nil)))))))))))
def n__law_meets_asked : List PySem.Str := [(PySem.Str.ofString "bowl"), (PySem.Str.ofString "causes"), (PySem.Str.ofString "wishes"), (PySem.Str.ofString "great"), (PySem.Str.ofString "nevers"), (PySem.Str.ofString "never"), (PySem.Str.ofString "at"), (PySem.Str.ofString "less"), (PySem.Str.ofString "due"), (PySem.Str.ofString "pair")]
def d__law_meets_asked : Ev.Def := ⟨4, 10, c__law_meets_asked⟩
@[reducible] def f__law_meets_asked : Nat := 21
/-- _law_bent_pair(bowl, pair) : 0=bowl 1=pair 2=times 3=due 4=at 5=odd 6=way -/
def c__law_bent_pair : Ev.Ss := (.cons (.set (.nm 2) (.idx (.var 1) (.int 0))) (.cons (.set (.nm 3) (.idx (.var 1) (.int 1))) (.cons (.set (.nm 4) (.call 11 (.cons (.lend 0) (.cons (.blt .len (.cons (.var 2) .nil)) .nil)))) (.cons (.set (.nm 5) (.idx (.lst (.cons (.neg (.int 1)) (.cons (.bl true) (.cons (.bl false) (.cons (.str (PySem.Str.ofString "0")) (.cons (.tup (.cons (.int 0) .nil)) (.cons (.frz (.lst (.cons (.int 1) .nil))) (.cons (.str (PySem.Str.ofString "never")) (.cons (.tup .nil) (.cons (.neg (.bin .pow (.int 10) (.int 59))) (.cons (.str (PySem.Str.ofString "")) (.cons (.frz (.lst .nil)) (.cons (.tup (.cons .non .nil)) .nil))))))))))))) (.call 11 (.cons (.lend 0) (.cons (.int 12) .nil))))) (.cons (.set (.nm 6) (.call 11 (.cons (.lend 0) (.cons (.int 13) .nil)))) (.cons (.ite (.cmp .lt (.var 6) (.int 4)) (.cons (.ret (.tup (.cons (.bin .add (.bin .add (.slc (.var 2) .part (.var 4)) (.tup (.cons (.mov 5) .nil))) (.slc (.var 2) (.bin .add (.var 4) (.int 1)) .part)) (.cons (.mov 3) .nil)))) .nil) .nil) (.cons (.ite (.cmp .lt (.var 6) (.int 7)) (.cons (.ret (.tup (.cons (.mov 2) (.cons (.mov 5) .nil)))) .nil) .nil) (.cons (.ite (.cmp .eq (.var 6) (.int 7)) (.cons (.ret (.tup (.cons (.frz (.blt .list (.cons (.var 2) .nil))) (.cons (.mov 3) .nil)))) .nil) .nil) (.cons (.ite (.cmp .eq (.var 6) (.int 8)) (.cons (.ret (.frz (.lst (.cons (.mov 2) (.cons (.mov 3) .nil))))) .nil) .nil) (.cons (.ite (.cmp .eq (.var 6) (.int 9)) (.cons (.ret (.tup (.cons (.mov 2) (.cons (.mov 3) (.cons (.mov 3) .nil))))) .nil) .nil) (.cons (.ite (.cmp .eq (.var 6) (.int 10)) (.cons (.ret (.tup (.cons (.bin .add (.slc (.var 2) .part (.var 4)) (.slc (.var 2) (.bin .add (.var 4) (.int 1)) .part)) (.cons (.mov 3) .nil)))) .nil) .nil) (.cons (.ite (.cmp .eq (.var 6) (.int 11)) (.cons (.ret (.tup (.cons (.bin .add (.var 2) (.tup (.cons (.idx (.var 2) (.var 4)) .nil))) (.cons (.mov 3) .nil)))) .nil) .nil) (.cons (.ret (.idx (.lst (.cons .non (.cons (.tup (.cons (.mov 2) .nil)) (.cons (.tup .nil) (.cons (.str (PySem.Str.ofString "00")) (.cons (.tup (.cons (.bin .mul (.str (PySem.Str.ofString "0")) (.blt .len (.cons (.var 2) .nil))) (.cons (.mov 3) .nil))) (.cons (.tup (.cons (.mov 3) (.cons (.mov 2) .nil))) (.cons (.mov 2) (.cons (.int 0) (.cons (.tup (.cons .non (.cons (.mov 3) .nil))) .nil)))))))))) (.call 11 (.cons (.lend 0) (.cons (.int 9) .nil))))) .nil)))))))))))))
def n__law_bent_pair : List PySem.Str := [(PySem.Str.ofString "bowl"), (PySem.Str.ofString "pair"), (PySem.Str.ofString "times"), (PySem.Str.ofString "due"), (PySem.Str.ofString "at"), (PySem.Str.ofString "odd"), (PySem.Str.ofString "way")]
def d__law_bent_pair : Ev.Def := ⟨2, 7, c__law_bent_pair⟩
@[reducible] def f__law_bent_pair : Nat := 22
/-- _law_kinds_asked(bowl, many, wishes) : 0=bowl 1=many 2=wishes 3=lap 4=at 5=odd 6=bent -/
def c__law_kinds_asked : Ev.Ss := (.cons (.ite (.or (.cmp .isn (.call 7 (.cons (.lend 1) (.cons (.lend 2) .nil))) (.bl true)) (.cmp .isn (.call 7 (.cons (.lend 1) (.cons (.tup .nil) .nil))) (.bl true))) (.cons (.ret (.bl false)) .nil) .nil) (.cons (.ite (.cmp .isn (.call 7 (.cons (.lend 1) (.cons (.bin .add (.var 2) (.slc (.var 2) .part (.int 1))) .nil))) (.bl true)) (.cons (.ret (.bl false)) .nil) .nil) (.cons (.ite (.cmp .isn (.callk 7 0 [1, 0] (.cons (.lend 2) (.cons (.bin .add (.bin .mod (.blt .int (.cons (.var 1) .nil)) (.int 6)) (.int 1)) .nil))) (.bl false)) (.cons (.ret (.bl false)) .nil) .nil) (.cons (.loop (.nm 3) (.rng1 (.int 4)) (.cons (.set (.nm 4) (.call 11 (.cons (.lend 0) (.cons (.blt .len (.cons (.var 2) .nil)) .nil)))) (.cons (.set (.nm 6) (.call 22 (.cons (.lend 0) (.cons (.idx (.var 2) (.var 4)) .nil)))) (.cons (.ite (.cmp .isn (.call 7 (.cons (.lend 1) (.cons (.bin .add (.bin .add (.slc (.var 2) .part (.var 4)) (.tup (.cons (.mov 6) .nil))) (.slc (.var 2) (.bin .add (.var 4) (.int 1)) .part)) .nil))) (.bl false)) (.cons (.ret (.bl false)) .nil) .nil) .nil)))) (.cons (.set (.nm 4) (.call 11 (.cons (.lend 0) (.cons (.int 10) .nil)))) (.cons (.set (.nm 5) (.idx (.lst (.cons .non (.cons (.frz (.blt .list (.cons (.var 2) .nil))) (.cons (.frz (.lst .nil)) (.cons (.int 0) (.cons (.bl true) (.cons (.str (PySem.Str.ofString "")) (.cons (.idx (.var 2) (.int 0)) (.cons (.tup (.cons (.mov 2) .nil)) (.cons (.str (PySem.Str.ofString "()")) (.cons (.frz (.lst (.cons (.mov 2) .nil))) .nil))))))))))) (.var 4))) (.cons (.ret (.cmp .is (.call 7 (.cons (.lend 1) (.cons (.lend 5) .nil))) (.bl false))) .nil)))))))
def n__law_kinds_asked : List PySem.Str := [(PySem.Str.ofString "bowl"), (PySem.Str.ofString "many"), (PySem.Str.ofString "wishes"), (PySem.Str.ofString "lap"), (PySem.Str.ofString "at"), (PySem.Str.ofString "odd"), (PySem.Str.ofString "bent")]
def d__law_kinds_asked : Ev.Def := ⟨3, 7, c__law_kinds_asked⟩
@[reducible] def f__law_kinds_asked : Nat := 23
/-- law(script) : 0=script 1=bowl 2=many 3=great 4=causes 5=count 6=wishes 7=lap 8=pair 9=times -/
def c_law : Ev.Ss := (.cons (.set (.nm 1) (.call 10 (.cons (.lend 0) .nil))) (.cons (.set (.nm 2) (.idx (.lst (.cons (.int 2) (.cons (.int 3) (.cons (.int 1) (.cons (.int 4) (.cons (.int 2) (.cons (.int 6) .nil))))))) (.call 11 (.cons (.lend 1) (.cons (.int 6) .nil))))) (.cons (.set (.nm 3) (.idx (.lst (.cons (.int 4) (.cons (.int 10) (.cons (.int 3) (.cons (.int 1000) (.cons (.int 49000) .nil)))))) (.call 11 (.cons (.lend 1) (.cons (.int 5) .nil))))) (.cons (.set (.nm 4) (.call 16 (.cons (.lend 1) (.cons (.lend 2) (.cons (.lend 3) .nil))))) (.cons (.set (.nm 5) (.idx (.lst (.cons (.int 3) (.cons (.int 2) (.cons (.int 4) (.cons (.int 1) (.cons (.int 5) (.cons (.int 3) (.cons (.int 2) (.cons (.int 4) (.cons (.int 6) (.cons (.int 3) (.cons (.int 2) (.cons (.int 4) (.cons (.int 20) .nil)))))))))))))) (.call 11 (.cons (.lend 1) (.cons (.int 13) .nil))))) (.cons (.set (.nm 6) (.tup .nil)) (.cons (.loop (.nm 7) (.rng1 (.var 5)) (.cons (.set (.nm 9) (.call 17 (.cons (.lend 1) (.cons (.lend 2) (.cons (.lend 3) .nil))))) (.cons (.set (.nm 6) (.bin .add (.var 6) (.tup (.cons (.tup (.cons (.mov 9) (.cons (.call 15 (.cons (.lend 4) (.cons (.lend 9) .nil))) .nil))) .nil)))) .nil))) (.cons (.loop (.nm 8) (.froz 6) (.cons (.ite (.not (.call 18 (.cons (.idx (.var 8) (.int 0)) (.cons (.idx (.var 8) (.int 1)) .nil)))) (.cons (.ret (.bl false)) .nil) .nil) .nil)) (.cons (.ite (.or (.not (.call 19 (.cons (.lend 1) (.cons (.lend 2) (.cons (.lend 3) .nil))))) (.not (.call 21 (.cons (.lend 1) (.cons (.lend 4) (.cons (.lend 6) (.cons (.lend 3) .nil))))))) (.cons (.ret (.bl false)) .nil) .nil) (.cons (.ret (.call 23 (.cons (.lend 1) (.cons (.lend 2) (.cons (.lend 6) .nil))))) .nil))))))))))
def n_law : List PySem.Str := [(PySem.Str.ofString "script"), (PySem.Str.ofString "bowl"), (PySem.Str.ofString "many"), (PySem.Str.ofString "great"), (PySem.Str.ofString "causes"), (PySem.Str.ofString "count"), (PySem.Str.ofString "wishes"), (PySem.Str.ofString "lap"), (PySem.Str.ofString "pair"), (PySem.Str.ofString "times")]
def d_law : Ev.Def := ⟨1, 10, c_law⟩
@[reducible] def f_law : Nat := 24
def pg : Ev.Pg := ⟨[d_is_whole, d_is_number, d_is_row, d_cause_time, d_list_time, d_is_time, d_are_times, d_are_wishes, d_meets, d_own_cause, d__law_bowl, d__law_scoop, d__law_same, d__law_truth, d__law_own, d__law_time, d__law_list, d__law_times, d__law_asked, d__law_own_asked, d__law_changed, d__law_meets_asked, d__law_bent_pair, d__law_kinds_asked, d_law], []⟩
def fns : List PySem.Str := [(PySem.Str.ofString "is_whole"), (PySem.Str.ofString "is_number"), (PySem.Str.ofString "is_row"), (PySem.Str.ofString "cause_time"), (PySem.Str.ofString "list_time"), (PySem.Str.ofString "is_time"), (PySem.Str.ofString "are_times"), (PySem.Str.ofString "are_wishes"), (PySem.Str.ofString "meets"), (PySem.Str.ofString "own_cause"), (PySem.Str.ofString "_law_bowl"), (PySem.Str.ofString "_law_scoop"), (PySem.Str.ofString "_law_same"), (PySem.Str.ofString "_law_truth"), (PySem.Str.ofString "_law_own"), (PySem.Str.ofString "_law_time"), (PySem.Str.ofString "_law_list"), (PySem.Str.ofString "_law_times"), (PySem.Str.ofString "_law_asked"), (PySem.Str.ofString "_law_own_asked"), (PySem.Str.ofString "_law_changed"), (PySem.Str.ofString "_law_meets_asked"), (PySem.Str.ofString "_law_bent_pair"), (PySem.Str.ofString "_law_kinds_asked"), (PySem.Str.ofString "law")]
def gls : List PySem.Str := []
def tops : List PySem.Str := [(PySem.Str.ofString "max"), (PySem.Str.ofString "tuple"), (PySem.Str.ofString "range"), (PySem.Str.ofString "sorted"), (PySem.Str.ofString "list"), (PySem.Str.ofString "isinstance"), (PySem.Str.ofString "int"), (PySem.Str.ofString "len"), (PySem.Str.ofString "min"), (PySem.Str.ofString "abs"), (PySem.Str.ofString "bool"), (PySem.Str.ofString "set")]
def nss : List (List PySem.Str) := [n_is_whole, n_is_number, n_is_row, n_cause_time, n_list_time, n_is_time, n_are_times, n_are_wishes, n_meets, n_own_cause, n__law_bowl, n__law_scoop, n__law_same, n__law_truth, n__law_own, n__law_time, n__law_list, n__law_times, n__law_asked, n__law_own_asked, n__law_changed, n__law_meets_asked, n__law_bent_pair, n__law_kinds_asked, n_law]
def ats : List Nat := [1, 2, 3, 5, 7, 9, 11, 13, 14, 15, 17, 18, 19, 20, 21, 22, 23, 24, 25, 26, 27, 28, 29, 30, 31]
def kbs : List (Nat × List PySem.Str × List Nat) := [(9, [(PySem.Str.ofString "wish")], [0]), (8, [(PySem.Str.ofString "wishes"), (PySem.Str.ofString "causes")], [1, 0]), (7, [(PySem.Str.ofString "thing"), (PySem.Str.ofString "many")], [1, 0])]
def names : Array String := #["is_whole", "is_number", "is_row", "cause_time", "list_time", "is_time", "are_times", "are_wishes", "meets", "own_cause", "_law_bowl", "_law_scoop", "_law_same", "_law_truth", "_law_own", "_law_time", "_law_list", "_law_times", "_law_asked", "_law_own_asked", "_law_changed", "_law_meets_asked", "_law_bent_pair", "_law_kinds_asked", "law"]
def T : Ev.Text := ⟨pg, fns, nss, gls, tops, kbs, fun i => PySem.Challenge.pw_firstandlast_k19_own_causes.main.body.getD (ats.getD i 0) (.Pass ⟨0, 0, 0, 0⟩)⟩
theorem b0 : BindFact T 0 (PySem.Str.ofString "is_whole") := fun _ _ _ _ _ _ us hl => match us, (show us.length = 1 from hl) with | [_], _ => rfl
theorem s0 : ScFact T 0 (PySem.Str.ofString "is_whole") := ⟨rfl, rfl, rfl, by decide +kernel, rfl, by decide +kernel, by decide +kernel⟩
theorem c0 : CkFact T 0 (PySem.Str.ofString "is_whole") := by
  show T.chk 0 = true
  decide +kernel
theorem b1 : BindFact T 1 (PySem.Str.ofString "is_number") := fun _ _ _ _ _ _ us hl => match us, (show us.length = 1 from hl) with | [_], _ => rfl
theorem s1 : ScFact T 1 (PySem.Str.ofString "is_number") := ⟨rfl, rfl, rfl, by decide +kernel, rfl, by decide +kernel, by decide +kernel⟩
theorem c1 : CkFact T 1 (PySem.Str.ofString "is_number") := by
  show T.chk 1 = true
  decide +kernel
theorem b2 : BindFact T 2 (PySem.Str.ofString "is_row") := fun _ _ _ _ _ _ us hl => match us, (show us.length = 2 from hl) with | [_, _], _ => rfl
theorem s2 : ScFact T 2 (PySem.Str.ofString "is_row") := ⟨rfl, rfl, rfl, by decide +kernel, rfl, by decide +kernel, by decide +kernel⟩
theorem c2 : CkFact T 2 (PySem.Str.ofString "is_row") := by
  show T.chk 2 = true
  decide +kernel
theorem b3 : BindFact T 3 (PySem.Str.ofString "cause_time") := fun _ _ _ _ _ _ us hl => match us, (show us.length = 2 from hl) with | [_, _], _ => rfl
theorem s3 : ScFact T 3 (PySem.Str.ofString "cause_time") := ⟨rfl, rfl, rfl, by decide +kernel, rfl, by decide +kernel, by decide +kernel⟩
theorem c3 : CkFact T 3 (PySem.Str.ofString "cause_time") := by
  show T.chk 3 = true
  decide +kernel
theorem b4 : BindFact T 4 (PySem.Str.ofString "list_time") := fun _ _ _ _ _ _ us hl => match us, (show us.length = 2 from hl) with | [_, _], _ => rfl
theorem s4 : ScFact T 4 (PySem.Str.ofString "list_time") := ⟨rfl, rfl, rfl, by decide +kernel, rfl, by decide +kernel, by decide +kernel⟩
theorem c4 : CkFact T 4 (PySem.Str.ofString "list_time") := by
  show T.chk 4 = true
  decide +kernel
theorem b5 : BindFact T 5 (PySem.Str.ofString "is_time") := fun _ _ _ _ _ _ us hl => match us, (show us.length = 1 from hl) with | [_], _ => rfl
theorem s5 : ScFact T 5 (PySem.Str.ofString "is_time") := ⟨rfl, rfl, rfl, by decide +kernel, rfl, by decide +kernel, by decide +kernel⟩
theorem c5 : CkFact T 5 (PySem.Str.ofString "is_time") := by
  show T.chk 5 = true
  decide +kernel
theorem b6 : BindFact T 6 (PySem.Str.ofString "are_times") := fun _ _ _ _ _ _ us hl => match us, (show us.length = 2 from hl) with | [_, _], _ => rfl
theorem s6 : ScFact T 6 (PySem.Str.ofString "are_times") := ⟨rfl, rfl, rfl, by decide +kernel, rfl, by decide +kernel, by decide +kernel⟩
theorem c6 : CkFact T 6 (PySem.Str.ofString "are_times") := by
  show T.chk 6 = true
  decide +kernel
theorem b7 : BindFact T 7 (PySem.Str.ofString "are_wishes") := fun _ _ _ _ _ _ us hl => match us, (show us.length = 2 from hl) with | [_, _], _ => rfl
theorem s7 : ScFact T 7 (PySem.Str.ofString "are_wishes") := ⟨rfl, rfl, rfl, by decide +kernel, rfl, by decide +kernel, by decide +kernel⟩
theorem c7 : CkFact T 7 (PySem.Str.ofString "are_wishes") := by
  show T.chk 7 = true
  decide +kernel
theorem b8 : BindFact T 8 (PySem.Str.ofString "meets") := fun _ _ _ _ _ _ us hl => match us, (show us.length = 2 from hl) with | [_, _], _ => rfl
theorem s8 : ScFact T 8 (PySem.Str.ofString "meets") := ⟨rfl, rfl, rfl, by decide +kernel, rfl, by decide +kernel, by decide +kernel⟩
theorem c8 : CkFact T 8 (PySem.Str.ofString "meets") := by
  show T.chk 8 = true
  decide +kernel
theorem b9 : BindFact T 9 (PySem.Str.ofString "own_cause") := fun _ _ _ _ _ _ us hl => match us, (show us.length = 1 from hl) with | [_], _ => rfl
theorem s9 : ScFact T 9 (PySem.Str.ofString "own_cause") := ⟨rfl, rfl, rfl, by decide +kernel, rfl, by decide +kernel, by decide +kernel⟩
theorem c9 : CkFact T 9 (PySem.Str.ofString "own_cause") := by
  show T.chk 9 = true
  decide +kernel
theorem b10 : BindFact T 10 (PySem.Str.ofString "_law_bowl") := fun _ _ _ _ _ _ us hl => match us, (show us.length = 1 from hl) with | [_], _ => rfl
theorem s10 : ScFact T 10 (PySem.Str.ofString "_law_bowl") := ⟨rfl, rfl, rfl, by decide +kernel, rfl, by decide +kernel, by decide +kernel⟩
theorem c10 : CkFact T 10 (PySem.Str.ofString "_law_bowl") := by
  show T.chk 10 = true
  decide +kernel
theorem b11 : BindFact T 11 (PySem.Str.ofString "_law_scoop") := fun _ _ _ _ _ _ us hl => match us, (show us.length = 2 from hl) with | [_, _], _ => rfl
theorem s11 : ScFact T 11 (PySem.Str.ofString "_law_scoop") := ⟨rfl, rfl, rfl, by decide +kernel, rfl, by decide +kernel, by decide +kernel⟩
theorem c11 : CkFact T 11 (PySem.Str.ofString "_law_scoop") := by
  show T.chk 11 = true
  decide +kernel
theorem b12 : BindFact T 12 (PySem.Str.ofString "_law_same") := fun _ _ _ _ _ _ us hl => match us, (show us.length = 2 from hl) with | [_, _], _ => rfl
theorem s12 : ScFact T 12 (PySem.Str.ofString "_law_same") := ⟨rfl, rfl, rfl, by decide +kernel, rfl, by decide +kernel, by decide +kernel⟩
theorem c12 : CkFact T 12 (PySem.Str.ofString "_law_same") := by
  show T.chk 12 = true
  decide +kernel
theorem b13 : BindFact T 13 (PySem.Str.ofString "_law_truth") := fun _ _ _ _ _ _ us hl => match us, (show us.length = 2 from hl) with | [_, _], _ => rfl
theorem s13 : ScFact T 13 (PySem.Str.ofString "_law_truth") := ⟨rfl, rfl, rfl, by decide +kernel, rfl, by decide +kernel, by decide +kernel⟩
theorem c13 : CkFact T 13 (PySem.Str.ofString "_law_truth") := by
  show T.chk 13 = true
  decide +kernel
theorem b14 : BindFact T 14 (PySem.Str.ofString "_law_own") := fun _ _ _ _ _ _ us hl => match us, (show us.length = 2 from hl) with | [_, _], _ => rfl
theorem s14 : ScFact T 14 (PySem.Str.ofString "_law_own") := ⟨rfl, rfl, rfl, by decide +kernel, rfl, by decide +kernel, by decide +kernel⟩
theorem c14 : CkFact T 14 (PySem.Str.ofString "_law_own") := by
  show T.chk 14 = true
  decide +kernel
theorem b15 : BindFact T 15 (PySem.Str.ofString "_law_time") := fun _ _ _ _ _ _ us hl => match us, (show us.length = 2 from hl) with | [_, _], _ => rfl
theorem s15 : ScFact T 15 (PySem.Str.ofString "_law_time") := ⟨rfl, rfl, rfl, by decide +kernel, rfl, by decide +kernel, by decide +kernel⟩
theorem c15 : CkFact T 15 (PySem.Str.ofString "_law_time") := by
  show T.chk 15 = true
  decide +kernel
theorem b16 : BindFact T 16 (PySem.Str.ofString "_law_list") := fun _ _ _ _ _ _ us hl => match us, (show us.length = 3 from hl) with | [_, _, _], _ => rfl
theorem s16 : ScFact T 16 (PySem.Str.ofString "_law_list") := ⟨rfl, rfl, rfl, by decide +kernel, rfl, by decide +kernel, by decide +kernel⟩
theorem c16 : CkFact T 16 (PySem.Str.ofString "_law_list") := by
  show T.chk 16 = true
  decide +kernel
theorem b17 : BindFact T 17 (PySem.Str.ofString "_law_times") := fun _ _ _ _ _ _ us hl => match us, (show us.length = 3 from hl) with | [_, _, _], _ => rfl
theorem s17 : ScFact T 17 (PySem.Str.ofString "_law_times") := ⟨rfl, rfl, rfl, by decide +kernel, rfl, by decide +kernel, by decide +kernel⟩
theorem c17 : CkFact T 17 (PySem.Str.ofString "_law_times") := by
  show T.chk 17 = true
  decide +kernel
theorem b18 : BindFact T 18 (PySem.Str.ofString "_law_asked") := fun _ _ _ _ _ _ us hl => match us, (show us.length = 2 from hl) with | [_, _], _ => rfl
theorem s18 : ScFact T 18 (PySem.Str.ofString "_law_asked") := ⟨rfl, rfl, rfl, by decide +kernel, rfl, by decide +kernel, by decide +kernel⟩
theorem c18 : CkFact T 18 (PySem.Str.ofString "_law_asked") := by
  show T.chk 18 = true
  decide +kernel
theorem b19 : BindFact T 19 (PySem.Str.ofString "_law_own_asked") := fun _ _ _ _ _ _ us hl => match us, (show us.length = 3 from hl) with | [_, _, _], _ => rfl
theorem s19 : ScFact T 19 (PySem.Str.ofString "_law_own_asked") := ⟨rfl, rfl, rfl, by decide +kernel, rfl, by decide +kernel, by decide +kernel⟩
theorem c19 : CkFact T 19 (PySem.Str.ofString "_law_own_asked") := by
  show T.chk 19 = true
  decide +kernel
theorem b20 : BindFact T 20 (PySem.Str.ofString "_law_changed") := fun _ _ _ _ _ _ us hl => match us, (show us.length = 3 from hl) with | [_, _, _], _ => rfl
theorem s20 : ScFact T 20 (PySem.Str.ofString "_law_changed") := ⟨rfl, rfl, rfl, by decide +kernel, rfl, by decide +kernel, by decide +kernel⟩
theorem c20 : CkFact T 20 (PySem.Str.ofString "_law_changed") := by
  show T.chk 20 = true
  decide +kernel
theorem b21 : BindFact T 21 (PySem.Str.ofString "_law_meets_asked") := fun _ _ _ _ _ _ us hl => match us, (show us.length = 4 from hl) with | [_, _, _, _], _ => rfl
theorem s21 : ScFact T 21 (PySem.Str.ofString "_law_meets_asked") := ⟨rfl, rfl, rfl, by decide +kernel, rfl, by decide +kernel, by decide +kernel⟩
theorem c21 : CkFact T 21 (PySem.Str.ofString "_law_meets_asked") := by
  show T.chk 21 = true
  decide +kernel
theorem b22 : BindFact T 22 (PySem.Str.ofString "_law_bent_pair") := fun _ _ _ _ _ _ us hl => match us, (show us.length = 2 from hl) with | [_, _], _ => rfl
theorem s22 : ScFact T 22 (PySem.Str.ofString "_law_bent_pair") := ⟨rfl, rfl, rfl, by decide +kernel, rfl, by decide +kernel, by decide +kernel⟩
theorem c22 : CkFact T 22 (PySem.Str.ofString "_law_bent_pair") := by
  show T.chk 22 = true
  decide +kernel
theorem b23 : BindFact T 23 (PySem.Str.ofString "_law_kinds_asked") := fun _ _ _ _ _ _ us hl => match us, (show us.length = 3 from hl) with | [_, _, _], _ => rfl
theorem s23 : ScFact T 23 (PySem.Str.ofString "_law_kinds_asked") := ⟨rfl, rfl, rfl, by decide +kernel, rfl, by decide +kernel, by decide +kernel⟩
theorem c23 : CkFact T 23 (PySem.Str.ofString "_law_kinds_asked") := by
  show T.chk 23 = true
  decide +kernel
theorem b24 : BindFact T 24 (PySem.Str.ofString "law") := fun _ _ _ _ _ _ us hl => match us, (show us.length = 1 from hl) with | [_], _ => rfl
theorem s24 : ScFact T 24 (PySem.Str.ofString "law") := ⟨rfl, rfl, rfl, by decide +kernel, rfl, by decide +kernel, by decide +kernel⟩
theorem c24 : CkFact T 24 (PySem.Str.ofString "law") := by
  show T.chk 24 = true
  decide +kernel
theorem kb0 : KbFact T (9, [(PySem.Str.ofString "wish")], [0]) := fun x hx kV dc pm cd ct an ws hl => by
  have e : x = (PySem.Str.ofString "own_cause") := (Option.some.inj (show some (PySem.Str.ofString "own_cause") = some x from hx)).symm
  subst e
  match ws, (show ws.length = 1 from hl) with
  | [_], _ => rfl
theorem kb1 : KbFact T (8, [(PySem.Str.ofString "wishes"), (PySem.Str.ofString "causes")], [1, 0]) := fun x hx kV dc pm cd ct an ws hl => by
  have e : x = (PySem.Str.ofString "meets") := (Option.some.inj (show some (PySem.Str.ofString "meets") = some x from hx)).symm
  subst e
  match ws, (show ws.length = 2 from hl) with
  | [_, _], _ => rfl
theorem kb2 : KbFact T (7, [(PySem.Str.ofString "thing"), (PySem.Str.ofString "many")], [1, 0]) := fun x hx kV dc pm cd ct an ws hl => by
  have e : x = (PySem.Str.ofString "are_wishes") := (Option.some.inj (show some (PySem.Str.ofString "are_wishes") = some x from hx)).symm
  subst e
  match ws, (show ws.length = 2 from hl) with
  | [_, _], _ => rfl
theorem bf : ∀ (i : Nat) (x : Str), T.fns[i]? = some x → BindFact T i x := each_0 (each_cons b0 (each_cons b1 (each_cons b2 (each_cons b3 (each_cons b4 (each_cons b5 (each_cons b6 (each_cons b7 (each_cons b8 (each_cons b9 (each_cons b10 (each_cons b11 (each_cons b12 (each_cons b13 (each_cons b14 (each_cons b15 (each_cons b16 (each_cons b17 (each_cons b18 (each_cons b19 (each_cons b20 (each_cons b21 (each_cons b22 (each_cons b23 (each_cons b24 each_nil)))))))))))))))))))))))))
theorem sf : ∀ (i : Nat) (x : Str), T.fns[i]? = some x → ScFact T i x := each_0 (each_cons s0 (each_cons s1 (each_cons s2 (each_cons s3 (each_cons s4 (each_cons s5 (each_cons s6 (each_cons s7 (each_cons s8 (each_cons s9 (each_cons s10 (each_cons s11 (each_cons s12 (each_cons s13 (each_cons s14 (each_cons s15 (each_cons s16 (each_cons s17 (each_cons s18 (each_cons s19 (each_cons s20 (each_cons s21 (each_cons s22 (each_cons s23 (each_cons s24 each_nil)))))))))))))))))))))))))
theorem cf : ∀ (i : Nat) (x : Str), T.fns[i]? = some x → CkFact T i x := each_0 (each_cons c0 (each_cons c1 (each_cons c2 (each_cons c3 (each_cons c4 (each_cons c5 (each_cons c6 (each_cons c7 (each_cons c8 (each_cons c9 (each_cons c10 (each_cons c11 (each_cons c12 (each_cons c13 (each_cons c14 (each_cons c15 (each_cons c16 (each_cons c17 (each_cons c18 (each_cons c19 (each_cons c20 (each_cons c21 (each_cons c22 (each_cons c23 (each_cons c24 each_nil)))))))))))))))))))))))))
theorem kf : ∀ q ∈ T.kbs, KbFact T q := (List.forall_mem_cons.mpr ⟨kb0, (List.forall_mem_cons.mpr ⟨kb1, (List.forall_mem_cons.mpr ⟨kb2, (fun _ h => absurd h List.not_mem_nil)⟩)⟩)⟩)
end K
end

section
set_option maxRecDepth 100000
set_option linter.all false
namespace K
open Ev
@[reducible] def fuel : Nat := 1000
/-! ### the predicates of values -/
def wholeD : D → Bool
  | .int _ => true
  | _ => false
def numD : D → Bool
  | .int i => decide (0 ≤ i)
  | _ => false
def timeD : D → Bool
  | .non => true
  | x => numD x
def rowD (x : D) (m : Int) : Bool := match x with
  | .tup xs => decide ((xs.length : Int) = m)
  | _ => false
theorem fin1 {x d : D} (hi : x.imm = true) (r : Env) : (O.rt d (x :: r)).fin [x] = .ok d [x] := by
  show R.ok d [if x.imm = true then x else x] = _
  simp
theorem fin2 {x y d : D} (r : Env) : (O.rt d (x :: y :: r)).fin [x, y] = .ok d [x, y] := by
  show R.ok d [if x.imm = true then x else x, if y.imm = true then y else y] = _
  simp
theorem fin3 {x y z d : D} (r : Env) : (O.rt d (x :: y :: z :: r)).fin [x, y, z] = .ok d [x, y, z] := by
  show R.ok d [if x.imm = true then x else x, if y.imm = true then y else y, if z.imm = true then z else z] = _
  simp
@[simp] theorem isi_non (t : Ty) : Ty.of t .non = some false := by cases t <;> rfl
@[simp] theorem isi_int_str (s : PySem.Str) : Ty.of .int (.str s) = some false := id rfl
@[simp] theorem isi_bool_str (s : PySem.Str) : Ty.of .bool (.str s) = some false := id rfl
@[simp] theorem isi_tup_str (s : PySem.Str) : Ty.of .tuple (.str s) = some false := id rfl
@[simp] theorem isi_int_rol (k : Bool) (xs : List D) : Ty.of .int (.rol k xs) = some false := id rfl
@[simp] theorem isi_bool_rol (k : Bool) (xs : List D) : Ty.of .bool (.rol k xs) = some false := id rfl
@[simp] theorem isi_tup_rol (k : Bool) (xs : List D) : Ty.of .tuple (.rol k xs) = some false := id rfl
@[simp] theorem n_str (s : PySem.Str) : D.isNo (.str s) = false := id rfl
theorem b_whole (gl : Nat → Option D) (call : Nat → List D → R D) (x : D) (hx : x.imm = true) : evSs gl call fuel c_is_whole (okP [x]) [x] = .rt (.bl (wholeD x)) [x] := by
  unfold c_is_whole
  cases x <;> first | (cases hx; done) | simp [wholeD]
theorem imm_no {x : D} (h : x.imm = true) : x.isNo = false := by cases x <;> first | rfl | cases h
theorem b_number (gl : Nat → Option D) (call : Nat → List D → R D) (x : D) (hx : x.imm = true) (c0 : call 0 [x] = .ok (.bl (wholeD x)) [x]) : evSs gl call fuel c_is_number (okP [x]) [x] = .rt (.bl (numD x)) [x] := by
  unfold c_is_number
  have hn := imm_no hx
  cases hw : wholeD x with
  | false =>
    rw [hw] at c0
    have : numD x = false := by cases x <;> first | rfl | cases hw
    simp [hn, c0, this]
  | true =>
    rw [hw] at c0
    cases x <;> first | (cases hw; done) | simp [c0, numD]
theorem b_row (gl : Nat → Option D) (call : Nat → List D → R D) (x : D) (hx : x.imm = true) (m : Int) : evSs gl call fuel c_is_row (okP [x, .int m]) [x, .int m] = .rt (.bl (rowD x m)) [x, .int m] := by
  unfold c_is_row
  cases x <;> first | (cases hx; done) | simp [rowD]
theorem is_no {y : D} (h : y.isNo = false) : Cmp.run .is y .non = some y.isNon := by cases y <;> first | rfl | cases h
theorem isn_no {y : D} (h : y.isNo = false) : Cmp.run .isn y .non = some (!y.isNon) := by cases y <;> first | rfl | cases h
theorem b_time (gl : Nat → Option D) (call : Nat → List D → R D) (x : D) (hx : x.imm = true) (c1 : call 1 [x] = .ok (.bl (numD x)) [x]) : evSs gl call fuel c_is_time (okP [x]) [x] = .rt (.bl (timeD x)) [x] := by
  unfold c_is_time
  have hn := imm_no hx
  have e := is_no hn
  cases hN : x.isNon with
  | true =>
    have : x = .non := by cases x <;> first | rfl | cases hN
    subst this
    simp [timeD]
  | false =>
    have : timeD x = numD x := by cases x <;> first | rfl | cases hN
    rw [hN] at e
    simp [hn, e, c1, this, hx]
def timesD (m : Int) (x : D) : Bool := rowD x m && (match x with | .tup xs => xs.all timeD | _ => false)
theorem b_times (gl : Nat → Option D) (call : Nat → List D → R D) (x : D) (hx : x.imm = true) (m : Int) (c2 : call 2 [x, .int m] = .ok (.bl (rowD x m)) [x, .int m]) (c5 : ∀ y : D, y.imm = true → call 5 [y] = .ok (.bl (timeD y)) [y]) :
    ∃ r, evSs gl call fuel c_are_times (okP [.int m, x]) [.int m, x, .no] = .rt (.bl (timesD m x)) (.int m :: x :: r) := by
  unfold c_are_times timesD
  have hn := imm_no hx
  cases hr : rowD x m with
  | false =>
    rw [hr] at c2
    exact ⟨[.no], by simp [hn, c2]⟩
  | true =>
    rw [hr] at c2
    cases x <;> first | (cases hr; done) | skip
    rename_i xs
    have im : D.immL xs = true := hx
    have ec : evM gl call (.comp (.var 2) (.nm 2) (.froz 1) (.not (.call 5 (.cons (.lend 2) .nil))) true [2]) .v [.int m, .tup xs, .no] = .ok (.lst (xs.filterMap fun y => if timeD y = true then none else some y)) [.int m, .tup xs, .no] := by
      refine comp_ok (fz := none) (ρ1 := [.int m, .tup xs, .no]) (ds := xs) (fun y => if timeD y = true then none else some y) ?_ ?_ rfl
      · simp [items, D.still, im]
      · intro y my
        have hy := immL_mem im y my
        have c := c5 y hy
        have ny := imm_no hy
        cases ht : timeD y <;> rw [ht] at c <;> simp [cturn, Ev.wipe, ny, c, hy]
    have hlen : (decide (((xs.filterMap fun y => if timeD y = true then none else some y).length : Int) = 0)) = xs.all timeD := by
      clear ec c2 hr hx hn
      induction xs with
      | nil => rfl
      | cons y ys ih =>
        have im2 : D.immL ys = true := by rw [i_cons, Bool.and_eq_true] at im; exact im.2
        cases ht : timeD y
        · simp [ht]; omega
        · simpa [ht] using ih im2
    refine ⟨[.no], ?_⟩
    show _ = O.rt (.bl (xs.all timeD)) _
    rw [← hlen]
    simp [hn, c2, ec]
/-! ### a loop that looks at each -/
theorem forL_all {σ : Type} {turn : D → Env → O} (E : σ → Env) (P : D → Bool) (r : D) : ∀ (ds : List D) (s : σ), (∀ d ∈ ds, ∀ s, ∃ s', turn d (E s) = if P d = true then .nx (E s') else .rt r (E s')) → ∃ s', forL turn ds (E s) = if ds.all P = true then .nx (E s') else .rt r (E s')
  | [], s, _ => ⟨s, rfl⟩
  | d :: ds, s, h => by
    obtain ⟨s1, h1⟩ := h d List.mem_cons_self s
    rw [forL, h1]
    cases hp : P d with
    | false => exact ⟨s1, by simp [hp, O.turn]⟩
    | true =>
      obtain ⟨s2, h2⟩ := forL_all E P r ds s1 fun d m => h d (List.mem_cons_of_mem _ m)
      refine ⟨s2, ?_⟩
      rw [List.all_cons, hp, Bool.true_and]
      exact h2
def wishD (m : Int) (x : D) : Bool := match x with
  | .tup [a, b] => timesD m a && timeD b
  | _ => false
def wishesD (m : Int) (x : D) : Bool := match x with
  | .tup ps => ps.all (wishD m)
  | _ => false
theorem b_wishes (gl : Nat → Option D) (call : Nat → List D → R D) (x : D) (hx : x.imm = true) (m : Int) (c2 : ∀ y : D, y.imm = true → call 2 [y, .int 2] = .ok (.bl (rowD y 2)) [y, .int 2]) (c5 : ∀ y : D, y.imm = true → call 5 [y] = .ok (.bl (timeD y)) [y])
    (c6 : ∀ y : D, y.imm = true → call 6 [.int m, y] = .ok (.bl (timesD m y)) [.int m, y]) : ∃ r, evSs gl call fuel c_are_wishes (okP [.int m, x]) [.int m, x, .no] = .rt (.bl (wishesD m x)) (.int m :: x :: r) := by
  have hn := imm_no hx
  cases ht : Ty.of .tuple x with
  | none => cases x <;> first | (cases hx; done) | (cases ht; done)
  | some b =>
    cases b with
    | false =>
      have e : wishesD m x = false := by cases x <;> first | rfl | (cases ht; done)
      refine ⟨[.no], ?_⟩
      unfold c_are_wishes
      rw [e_cons]
      simp [-u_loop, hn, ht, e]
    | true =>
      cases x <;> first | (cases hx; done) | (cases ht; done) | skip
      rename_i xs
      have im : D.immL xs = true := hx
      obtain ⟨z, hz⟩ := forL_all (turn := fun dd ρ' => optO (stT (okP [.int m, .tup xs]) (.nm 2) dd ρ') fun ρ2 => evSs gl call fuel (.cons (.ite (.or (.not (.call 2 (.cons (.lend 2) (.cons (.int 2) .nil)))) (.or (.not (.call 6 (.cons (.lend 0) (.cons (.idx (.var 2) (.int 0)) .nil)))) (.not (.call 5 (.cons (.idx (.var 2) (.int 1)) .nil))))) (.cons (.ret (.bl false)) .nil) .nil) .nil) (okP [.int m, .tup xs]) ρ2)
        (fun z : D => [.int m, .tup xs, z]) (wishD m) (.bl false) xs .no (fun p mp z => by
          have hp := immL_mem im p mp
          have np := imm_no hp
          have o2 : okP [D.int m, D.tup xs] 2 = true := rfl
          refine ⟨p, ?_⟩
          have k2 := c2 p hp
          cases hr : rowD p 2 with
          | false =>
            rw [hr] at k2
            have : wishD m p = false := by
              cases p <;> first | rfl | skip
              rename_i ys
              match ys, hr with
              | [], _ => rfl
              | [_], _ => rfl
              | [_, _], h => simp [rowD] at h
              | _ :: _ :: _ :: _, _ => rfl
            simp [o2, np, k2, this]
          | true =>
            rw [hr] at k2
            cases p <;> first | (cases hr; done) | skip
            rename_i ys
            match ys, hr with
            | [a, b], _ =>
              have ia : a.imm = true := by have : D.immL [a, b] = true := hp; simp at this; exact this.1
              have ib : b.imm = true := by have : D.immL [a, b] = true := hp; simp at this; exact this.2
              have k6 := c6 a ia
              have k5 := c5 b ib
              cases h6 : timesD m a <;> rw [h6] at k6 <;> cases h5 : timeD b <;> rw [h5] at k5 <;> simp [o2, k2, ia, ib, k6, k5, wishD, h6, h5]
            | [], h => simp [rowD] at h
            | [_], h => simp [rowD] at h
            | _ :: _ :: _ :: _, h => simp [rowD] at h; omega)
      refine ⟨[z], ?_⟩
      unfold c_are_wishes
      have s0 : evS gl call fuel (.ite (.not (.isi (.var 1) .tuple)) (.cons (.ret (.bl false)) .nil) .nil) (okP [.int m, .tup xs]) [.int m, .tup xs, .no] = .nx [.int m, .tup xs, .no] := by simp
      have hI : evI gl call (.froz 1) [.int m, .tup xs, .no] = .ok (xs, none) [.int m, .tup xs, .no] := by simp [items, D.still, im]
      rw [e_cons, s0, e_nx, e_cons, u_loop, hI]
      simp only [e_o_ok, okBut_none]
      rw [hz]
      show _ = O.rt (.bl (xs.all (wishD m))) _
      cases xs.all (wishD m) <;> rfl
end K
end

section
set_option maxRecDepth 100000
set_option linter.all false
namespace K
open Ev
def times (cs : List (List Int)) (ts : List (Option Int)) : List Int := cs.filterMap fun c => come (c.zip ts)
theorem immL_tD (cs : List (List Int)) : D.immL (cs.map tD) = true := immL_of fun x m => by obtain ⟨c, _, rfl⟩ := List.mem_map.mp m; show D.immL (c.map .int) = true; simp
def FitsP (mm : Nat) (cs : List (List Int)) : Prop := ∀ c ∈ cs, c.length = mm ∧ ∃ x ∈ c, 0 ≤ x
/-! ### list_time -/
theorem lt_1 (gl : Nat → Option D) (call : Nat → List D → R D) (cs : List (List Int)) (ts : List (Option Int)) (c3 : ∀ c ∈ cs, call 3 [tD c, tO ts] = .ok (oD (come (c.zip ts))) [tD c, tO ts]) (a b c d : D) :
    evM gl call (.comp (.call 3 (.cons (.lend 3) (.cons (.lend 1) .nil))) (.nm 3) (.froz 0) (.bl true) false [3]) .v [.tup (cs.map tD), tO ts, a, b, c] =
      .ok (.lst ((cs.map fun c => come (c.zip ts)).map oD)) [.tup (cs.map tD), tO ts, a, .no, c] := by
  refine (comp_ok (fz := none) (ρ1 := [.tup (cs.map tD), tO ts, a, b, c]) (ds := cs.map tD) (fun x => match x with
    | .tup xs => match D.ints xs with
      | some ns => some (oD (come (ns.zip ts)))
      | none => none
    | _ => none) ?_ ?_ rfl).trans ?_
  · simp [items, D.still, immL_tD]
  · intro x hx
    obtain ⟨c, mc, rfl⟩ := List.mem_map.mp hx
    have rc := c3 c mc
    have e : (match tD c with | .tup xs => (match D.ints xs with | some ns => some (oD (come (ns.zip ts))) | none => none) | _ => none) = some (oD (come (c.zip ts))) := by
      show (match D.ints (c.map .int) with | some ns => some (oD (come (ns.zip ts))) | none => none) = _
      rw [ints_map]
    rw [e]
    have nt : (tD c).isNo = false := rfl
    have nT : (tO ts).isNo = false := rfl
    generalize tD c = C at *
    generalize tO ts = T at *
    simp [cturn, Ev.wipe, nt, nT, rc]
  · congr 2
    rw [List.filterMap_map]
    clear c3
    induction cs with
    | nil => rfl
    | cons c cs ih =>
      simp [tD, ints_map]
      simpa [tD] using ih
theorem lt_2 (gl : Nat → Option D) (call : Nat → List D → R D) (os : List (Option Int)) (A B a b : D) :
    evM gl call (.comp (.var 4) (.nm 4) (.froz 2) (.cmp .isn (.var 4) .non) true [4]) .v [A, B, .lst (os.map oD), a, b] =
      .ok (.lst ((os.filterMap id).map .int)) [A, B, .lst (os.map oD), a, .no] := by
  refine (comp_ok (fz := some 2) (ρ1 := [A, B, .rol false (os.map oD), a, b]) (ds := os.map oD) (fun x => match x with
    | .int t => some (.int t)
    | _ => none) ?_ ?_ rfl).trans ?_
  · simp [items, D.still]
  · intro x hx
    obtain ⟨o, _, rfl⟩ := List.mem_map.mp hx
    cases o <;> simp [cturn, Ev.wipe, oD]
  · congr 2
    rw [List.filterMap_map]
    induction os with
    | nil => rfl
    | cons o os ih => cases o <;> simp [oD] <;> exact ih
theorem b_list_time (gl : Nat → Option D) (call : Nat → List D → R D) (cs : List (List Int)) (ts : List (Option Int)) (c3 : ∀ c ∈ cs, call 3 [tD c, tO ts] = .ok (oD (come (c.zip ts))) [tD c, tO ts]) :
    (evSs gl call fuel c_list_time (okP [.tup (cs.map tD), tO ts]) [.tup (cs.map tD), tO ts, .no, .no, .no]).fin [.tup (cs.map tD), tO ts] = .ok (oD (minI (times cs ts))) [.tup (cs.map tD), tO ts] := by
  have o2 : okP [.tup (cs.map tD), tO ts] 2 = true := rfl
  have et : (cs.map fun c => come (c.zip ts)).filterMap id = times cs ts := by unfold times; rw [List.filterMap_map]; rfl
  unfold c_list_time
  have s1 : ∀ x y z : D, stT (okP [.tup (cs.map tD), tO ts]) (.nm 2) x [.tup (cs.map tD), tO ts, y, .no, z] = some [.tup (cs.map tD), tO ts, x, .no, z] := fun x y z => by simp [o2]
  rw [e_cons, u_set, lt_1 gl call cs ts c3 _ _ _ .no, e_o_ok, s1, e_optO, e_nx, e_cons, u_set, lt_2, e_o_ok, et, s1, e_optO, e_nx]
  by_cases hm : times cs ts = []
  · rw [hm]
    simp
    rw [fin2]; rfl
  · obtain ⟨v, hv⟩ : ∃ v, minI (times cs ts) = some v := by
      cases e : times cs ts with
      | nil => exact absurd e hm
      | cons x xs => exact ⟨_, rfl⟩
    have hmin : Blt.run .min [.lst ((times cs ts).map .int)] = some (.int v) := by rw [min_ints, hv]; rfl
    have dz : (0 : Int) < ((times cs ts).length : Int) := by have := List.length_pos_iff.mpr hm; omega
    have dn : 0 < (times cs ts).length := List.length_pos_iff.mpr hm
    rw [hv]
    simp [dz, dn, hmin]
    rw [fin2]; rfl
/-! ### meets -/
abbrev Wish := List (Option Int) × Option Int
theorem oD_ne (a b : Option Int) : Cmp.run .ne (oD a) (oD b) = some (!decide (a = b)) := by
  cases a <;> cases b <;> simp [oD, Cmp.run, D.cmpb, D.dep, D.eqv]
  rename_i x y
  by_cases h : x = y <;> simp [h]
def meetsB (cs : List (List Int)) (ws : List Wish) : Bool := ws.all fun w => decide (minI (times cs w.1) = w.2)
theorem immL_wD (ws : List Wish) : D.immL (ws.map wD) = true := immL_of fun x m => by obtain ⟨w, _, rfl⟩ := List.mem_map.mp m; exact wD_imm w
theorem len0_all {α β : Type} (f : α → Option β) (p : α → Bool) (h : ∀ a, f a = none ↔ p a = true) (l : List α) : decide (((l.filterMap f).length : Int) = 0) = l.all p := by
  induction l with
  | nil => rfl
  | cons a l ih =>
    cases hp : p a with
    | true => rw [List.filterMap_cons, (h a).mpr hp, List.all_cons, hp, Bool.true_and]; exact ih
    | false =>
      cases hf : f a with
      | none => rw [(h a).mp hf] at hp; cases hp
      | some b =>
        rw [List.filterMap_cons, hf, List.all_cons, hp, Bool.false_and]
        simp; omega
theorem b_meets (gl : Nat → Option D) (call : Nat → List D → R D) (cs : List (List Int)) (ws : List Wish) (hl : ws.length ≤ 1000) (c4 : ∀ w ∈ ws, call 4 [.tup (cs.map tD), tO w.1] = .ok (oD (minI (times cs w.1))) [.tup (cs.map tD), tO w.1]) :
    evSs gl call fuel c_meets (okP [.tup (cs.map tD), .tup (ws.map wD)]) [.tup (cs.map tD), .tup (ws.map wD), .no, .no] = .rt (.bl (meetsB cs ws)) [.tup (cs.map tD), .tup (ws.map wD), .no, .no] := by
  have im := immL_wD ws
  have iC := immL_tD cs
  have ec : evM gl call (.comp (.var 3) (.tup (.cons (.nm 2) (.cons (.nm 3) .nil))) (.froz 1) (.cmp .ne (.call 4 (.cons (.lend 0) (.cons (.lend 2) .nil))) (.var 3)) true [2, 3]) .v [.tup (cs.map tD), .tup (ws.map wD), .no, .no] =
      .ok (.lst (ws.filterMap fun w => if minI (times cs w.1) = w.2 then none else some (oD w.2))) [.tup (cs.map tD), .tup (ws.map wD), .no, .no] := by
    refine comp_map (fz := none) (ρ1 := [.tup (cs.map tD), .tup (ws.map wD), .no, .no]) wD (fun w => if minI (times cs w.1) = w.2 then none else some (oD w.2)) ws ?_ (fun w mw => ?_) rfl
    · simp [items, D.still, im]
    · have rc := c4 w mw
      have nT : (tO w.1).isNo = false := rfl
      have hw : wD w = .tup [tO w.1, oD w.2] := rfl
      have iT : (tO w.1).imm = true := by simp [tO]
      have nC : (D.tup (cs.map tD)).isNo = false := rfl
      rw [hw]
      generalize D.tup (cs.map tD) = C at *
      generalize tO w.1 = T at *
      generalize minI (times cs w.1) = a at *
      generalize w.2 = b at *
      have hne := oD_ne a b
      by_cases h : a = b <;> simp [cturn, stT, stTs, Tgs.len, Ev.wipe, nC, nT, rc, h, oD_ne]
  have hlen := len0_all (fun w : Wish => if minI (times cs w.1) = w.2 then none else some (oD w.2)) (fun w => decide (minI (times cs w.1) = w.2)) (fun a => by by_cases h : minI (times cs a.1) = a.2 <;> simp [h]) ws
  unfold c_meets meetsB
  rw [← hlen]
  generalize (ws.filterMap fun w => if minI (times cs w.1) = w.2 then none else some (oD w.2)) = L at *
  generalize D.tup (cs.map tD) = C at *
  generalize D.tup (ws.map wD) = W at *
  simp [ec]
end K
end

section
set_option maxRecDepth 100000
set_option linter.all false
namespace K
open Ev
/-! ### _law_truth, _law_same, _law_own -/
theorem b_truth (gl : Nat → Option D) (call : Nat → List D → R D) (a b : Bool) : evSs gl call fuel c__law_truth (okP [.bl a, .bl b]) [.bl a, .bl b] = .rt (.bl (a == b)) [.bl a, .bl b] := by
  unfold c__law_truth
  simp
theorem cD_imm (o : Option (List Int)) : (cD o).imm = true := by cases o with
  | none => rfl
  | some xs => exact immL_ints xs
theorem b_same (gl : Nat → Option D) (call : Nat → List D → R D) (o : Option (List Int)) (hl : ∀ xs, o = some xs → xs.length ≤ 1000) : ∃ r, evSs gl call fuel c__law_same (okP [cD o, cD o]) [cD o, cD o, .no] = .rt (.bl true) (cD o :: cD o :: r) := by
  unfold c__law_same
  cases o with
  | none => exact ⟨[.no], by simp [-u_loop, cD]⟩
  | some xs =>
    have hx := hl xs rfl
    show ∃ r, evSs gl call fuel _ (okP [tD xs, tD xs]) [tD xs, tD xs, .no] = .rt (.bl true) (tD xs :: tD xs :: r)
    have o2 : okP [tD xs, tD xs] 2 = true := rfl
    have n1 : (tD xs).isNo = false := rfl
    have i1 : Cmp.run .is (tD xs) .non = some false := rfl
    have t1 : Ty.of .tuple (tD xs) = some true := rfl
    have l1 : Blt.run .len [tD xs] = some (.int (xs.length : Int)) := by show Blt.run .len [.tup (xs.map .int)] = _; rw [len_tup, List.length_map]
    have it : ∀ (k : Nat) x, xs[k]? = some x → D.item (tD xs) (.int (k : Int)) = some (.int x) := fun k x h => by show D.item (.tup (xs.map .int)) _ = _; rw [item_nat, List.getElem?_map, h]; rfl
    generalize tD xs = T at *
    obtain ⟨j, hj, _⟩ := forL_fj (turn := fun dd ρ' => optO (stT (okP [T, T]) (.nm 2) dd ρ') fun ρ2 => evSs gl call fuel (.cons (.ite (.or (.not (.isi (.idx (.var 0) (.var 2)) .int)) (.or (.isi (.idx (.var 0) (.var 2)) .bool) (.cmp .ne (.idx (.var 0) (.var 2)) (.idx (.var 1) (.var 2))))) (.cons (.ret (.bl false)) .nil) .nil) .nil) (okP [T, T]) ρ2)
      (fun (_ : Unit) (z : D) => [T, T, z]) (fun _ s => s) (fun _ _ => True) (fun k (_ : Int) => .int (k : Int)) xs 0 () .no trivial (fun k x s z hk _ => by
        have := it k x hk
        refine ⟨⟨.int ((0 + k : Nat) : Int), .inl ?_⟩, trivial⟩
        rw [Nat.zero_add]
        simp [o2, n1, this])
    rw [encL_rng] at hj
    refine ⟨[j], ?_⟩
    have hI : evI gl call (.rng1 (.blt .len (.cons (.var 1) .nil))) [T, T, .no] = .ok (rngL 0 (xs.length : Int), none) [T, T, .no] := by
      simp [n1, l1, rngOk_of (i := (xs.length : Int)) (by omega) (by omega), fits_of (n := xs.length) (by omega)]
    have s0 : evS gl call fuel (.ite (.cmp .is (.var 1) .non) (.cons (.ret (.cmp .is (.var 0) .non)) .nil) .nil) (okP [T, T]) [T, T, .no] = .nx [T, T, .no] := by simp [n1, i1]
    have s1 : evS gl call fuel (.ite (.or (.not (.isi (.var 0) .tuple)) (.cmp .ne (.blt .len (.cons (.var 0) .nil)) (.blt .len (.cons (.var 1) .nil)))) (.cons (.ret (.bl false)) .nil) .nil) (okP [T, T]) [T, T, .no] = .nx [T, T, .no] := by simp [n1, t1, l1]
    rw [e_cons, s0, e_nx, e_cons, s1, e_nx, e_cons, u_loop, hI]
    simp only [e_o_ok, okBut_none]
    rw [hj, thaw_nx, e_nx]
    simp
theorem b_own (gl : Nat → Option D) (call : Nat → List D → R D) (ts : List (Option Int)) (ht : ts ≠ []) (hl : ts.length ≤ 1000) (due : Option Int) : ∃ r, evSs gl call fuel c__law_own (okP [tO ts, oD due]) [tO ts, oD due, .no, .no] = .rt (cD (ownC ts due)) (tO ts :: oD due :: r) := by
  unfold c__law_own
  cases due with
  | none => exact ⟨[.no, .no], by simp [-u_loop, oD, ownC, cD]⟩
  | some d =>
    have o2 : okP [tO ts, .int d] 2 = true := rfl
    have o3 : okP [tO ts, .int d] 3 = true := rfl
    obtain ⟨j, hj, _⟩ := forL_fj (turn := fun dd ρ' => optO (stT (okP [tO ts, .int d]) (.nm 3) dd ρ') fun ρ2 => evSs gl call fuel (.cons (.ite (.or (.cmp .is (.var 3) .non) (.cmp .gt (.var 3) (.var 1))) (.cons (.ex (.mth .append (.root 2) (.cons (.neg (.int 1)) .nil))) .nil) (.cons (.ex (.mth .append (.root 2) (.cons (.bin .sub (.var 1) (.var 3)) .nil))) .nil)) .nil) (okP [tO ts, .int d]) ρ2)
      (fun (acc : List Int) (z : D) => [tO ts, .int d, .lst (acc.map .int), z]) (fun t acc => acc ++ [ownF d t]) (fun n acc => acc.length = n) (fun _ => oD) ts 0 [] .no rfl (fun k t acc z hk hI => by
        have hk' : k < ts.length := (List.getElem?_eq_some_iff.mp hk).1
        have hline : acc.length < line := Nat.lt_of_le_of_lt (show acc.length ≤ 1000 by omega) (by decide)
        refine ⟨⟨oD t, .inl ?_⟩, by simp [hI]⟩
        have nT : (tO ts).isNo = false := rfl
        generalize tO ts = T at *
        cases t with
        | none => simp [o2, o3, oD, hline, ownF]
        | some t =>
          by_cases h : t ≤ d
          · have : ¬ d < t := by omega
            simp [o2, o3, oD, hline, ownF, h, this]
          · have : d < t := by omega
            simp [o2, o3, oD, hline, ownF, h, this])
    rw [encL_map] at hj
    have hf : ts.foldl (fun s a => s ++ [ownF d a]) [] = ts.map (ownF d) := by
      have : ∀ (l : List (Option Int)) (s : List Int), l.foldl (fun s a => s ++ [ownF d a]) s = s ++ l.map (ownF d) := by
        intro l
        induction l with
        | nil => intro s; simp
        | cons a l ih => intro s; rw [List.foldl_cons, ih]; simp
      rw [this]; rfl
    rw [hf] at hj
    have nT : (tO ts).isNo = false := rfl
    have hit : items (tO ts) = some (ts.map oD) := by simp [items, tO]
    have hst : (tO ts).still = true := rfl
    obtain ⟨v, hv⟩ := maxI_some (xs := ts.map (ownF d)) (by simpa using ht)
    have hm : Blt.run .max [.lst ((ts.map (ownF d)).map .int)] = some (.int v) := by rw [max_ints, hv]; rfl
    have hown : ownC ts (some d) = if 0 ≤ v then some (ts.map (ownF d)) else none := by
      show (if 0 ≤ (maxI (ts.map (ownF d))).getD (-1) then _ else _) = _
      rw [hv]; rfl
    have hi := immL_ints (ts.map (ownF d))
    rw [hown]
    show ∃ r, evSs gl call fuel _ (okP [tO ts, .int d]) [tO ts, .int d, .no, .no] = .rt _ (tO ts :: .int d :: r)
    have s0 : evS gl call fuel (.ite (.cmp .is (.var 1) .non) (.cons (.ret .non) .nil) .nil) (okP [tO ts, .int d]) [tO ts, .int d, .no, .no] = .nx [tO ts, .int d, .no, .no] := by simp
    have s1 : evS gl call fuel (.set (.nm 2) (.lst .nil)) (okP [tO ts, .int d]) [tO ts, .int d, .no, .no] = .nx [tO ts, .int d, .lst ([].map .int), .no] := by simp [o2]
    have hI : evI gl call (.froz 0) [tO ts, .int d, .lst ([].map .int), .no] = .ok (ts.map oD, none) [tO ts, .int d, .lst ([].map .int), .no] := by simp [nT, hit, hst]
    generalize tO ts = T at *
    generalize hL : (ts.map (ownF d)).map D.int = L at *
    have fin : ∀ k : Bool, cD (if 0 ≤ v then some (ts.map (ownF d)) else none) = if 0 ≤ v then .tup L else .non := fun _ => by split <;> simp [cD, tD, hL]
    rw [fin true]
    by_cases hneg : v < 0
    · have : ¬ 0 ≤ v := by omega
      refine ⟨[.lst L, j], ?_⟩
      rw [e_cons, s0, e_nx, e_cons, s1, e_nx, e_cons, u_loop, hI]
      simp only [e_o_ok, okBut_none]
      rw [hj, thaw_nx, e_nx]
      simp [hm, hneg, this]
    · have : 0 ≤ v := by omega
      refine ⟨[.lst L, j], ?_⟩
      rw [e_cons, s0, e_nx, e_cons, s1, e_nx, e_cons, u_loop, hI]
      simp only [e_o_ok, okBut_none]
      rw [hj, thaw_nx, e_nx]
      simp [hm, hneg, this, hi]
end K
end

section
set_option maxRecDepth 100000
set_option linter.all false
namespace K
open Ev
/-! ### _law_time -/
def comeS (z : Int × Option Int) (s : Option Int) : Option Int := if 0 ≤ z.1 then (match s with
  | none => none
  | some b => match z.2 with
    | none => none
    | some t => some (max b (t + z.1))) else s
def comeL (zs : List (Int × Option Int)) : Option Int := zs.foldl (fun s z => comeS z s) (some 0)
theorem sel_pos {c : Int} (h : 0 ≤ c) (t : Option Int) (zs : List (Int × Option Int)) : sel ((c, t) :: zs) = (c, t) :: sel zs := by unfold sel; rw [List.filter_cons, if_pos (by simpa using h)]
theorem sel_neg {c : Int} (h : ¬ 0 ≤ c) (t : Option Int) (zs : List (Int × Option Int)) : sel ((c, t) :: zs) = sel zs := by unfold sel; rw [List.filter_cons, if_neg (by simpa using h)]
theorem comeS_none : ∀ zs : List (Int × Option Int), zs.foldl (fun s z => comeS z s) none = none
  | [] => rfl
  | z :: zs => by
    rw [List.foldl_cons]
    have : comeS z none = none := by unfold comeS; split <;> rfl
    rw [this]; exact comeS_none zs
theorem comeS_some : ∀ (zs : List (Int × Option Int)) (b : Int), zs.foldl (fun s z => comeS z s) (some b) = if (sel zs).any (fun z => z.2.isNone) then none else some (((sel zs).map fun z => z.2.getD 0 + z.1).foldl max b)
  | [], b => rfl
  | (c, t) :: zs, b => by
    rw [List.foldl_cons]
    by_cases hc : 0 ≤ c
    · rw [sel_pos hc]
      cases t with
      | none =>
        have : comeS (c, none) (some b) = none := by unfold comeS; rw [if_pos hc]
        rw [this, comeS_none]; rfl
      | some t =>
        have : comeS (c, some t) (some b) = some (max b (t + c)) := by unfold comeS; rw [if_pos hc]
        rw [this, comeS_some zs]; rfl
    · have : comeS (c, t) (some b) = some b := by unfold comeS; rw [if_neg hc]
      rw [this, comeS_some zs, sel_neg hc]
theorem comeL_eq {zs : List (Int × Option Int)} (hs : sel zs ≠ []) (hp : ∀ z ∈ zs, ∀ t, z.2 = some t → 0 ≤ t) : comeL zs = come zs := by
  unfold comeL
  rw [comeS_some]
  unfold come
  split
  · rfl
  · rename_i hn
    cases hl : (sel zs).map (fun z => z.2.getD 0 + z.1) with
    | nil => simp at hl; exact absurd hl hs
    | cons x xs =>
      have hx : 0 ≤ x := by
        have m : x ∈ (sel zs).map (fun z => z.2.getD 0 + z.1) := by rw [hl]; exact List.mem_cons_self
        obtain ⟨z, mz, rfl⟩ := List.mem_map.mp m
        have h1 : z ∈ zs := (List.mem_filter.mp mz).1
        have h2 : 0 ≤ z.1 := by simpa using (List.mem_filter.mp mz).2
        cases e : z.2 with
        | none => show 0 ≤ 0 + z.1; omega
        | some t => have := hp z h1 t e; show 0 ≤ t + z.1; omega
      show some (xs.foldl max (max 0 x)) = some (xs.foldl max x)
      rw [Int.max_eq_right hx]
def upd1 (b : Option Int) (c : Option Int) : Option Int := match c with
  | none => b
  | some v => match b with
    | none => some v
    | some b => if v < b then some v else some b
theorem upd1_some : ∀ (l : List (Option Int)) (b : Int), l.foldl upd1 (some b) = some ((l.filterMap id).foldl min b)
  | [], b => rfl
  | none :: l, b => by rw [List.foldl_cons]; exact upd1_some l b
  | some v :: l, b => by
    rw [List.foldl_cons]
    have : upd1 (some b) (some v) = some (min b v) := by show (if v < b then some v else some b) = _; split <;> congr 1 <;> omega
    rw [this, upd1_some l]; rfl
theorem upd1_none : ∀ (l : List (Option Int)), l.foldl upd1 none = minI (l.filterMap id)
  | [] => rfl
  | none :: l => by rw [List.foldl_cons]; exact upd1_none l
  | some v :: l => by rw [List.foldl_cons]; show l.foldl upd1 (some v) = _; rw [upd1_some]; rfl
def bT1 : Ss := (.cons (.ite (.and (.cmp .ge (.idx (.var 3) (.var 5)) (.int 0)) (.cmp .isn (.var 4) .non)) (.cons (.ite (.cmp .is (.idx (.var 1) (.var 5)) .non) (.cons (.set (.nm 4) .non) .nil) (.cons (.set (.nm 4) (.blt .max (.cons (.var 4) (.cons (.bin .add (.idx (.var 1) (.var 5)) (.idx (.var 3) (.var 5))) .nil)))) .nil)) .nil) .nil) .nil)
theorem t1_turn (gl : Nat → Option D) (call : Nat → List D → R D) (ok : Nat → Bool) (o4 : ok 4 = true) (o5 : ok 5 = true) (C T B c q : D) (nT : T.isNo = false) (nc : c.isNo = false) (k : Nat) (z : Int × Option Int) (ic : D.item c (.int (k : Int)) = some (.int z.1)) (it : D.item T (.int (k : Int)) = some (oD z.2)) (s : Option Int) :
    (optO (stT ok (.nm 5) (.int (k : Int)) [C, T, B, c, oD s, q]) fun ρ2 => evSs gl call fuel bT1 ok ρ2) = .nx [C, T, B, c, oD (comeS z s), .int (k : Int)] := by
  unfold bT1
  obtain ⟨a, t⟩ := z
  by_cases hc : 0 ≤ a
  · cases s with
    | none => simp [o4, o5, nT, nc, ic, hc, comeS, oD]
    | some b =>
      cases t with
      | none => simp only [oD] at it; simp [o4, o5, nT, nc, ic, it, hc, comeS, oD]
      | some t =>
        simp only [oD] at it
        have : max b (t + a) = if b < t + a then t + a else b := by split <;> omega
        simp [o4, o5, nT, nc, ic, it, hc, comeS, oD, this]
  · simp [o4, o5, nT, nc, ic, hc, comeS]
def bT2 : Ss := (.cons (.set (.nm 4) (.int 0)) (.cons (.loop (.nm 5) (.rng1 (.blt .len (.cons (.var 3) .nil))) bT1) (.cons (.ite (.and (.cmp .isn (.var 4) .non) (.or (.cmp .is (.var 2) .non) (.cmp .lt (.var 4) (.var 2)))) (.cons (.set (.nm 2) (.mov 4)) .nil) .nil) .nil)))
theorem t2_turn (gl : Nat → Option D) (call : Nat → List D → R D) (ok : Nat → Bool) (o : ∀ i, 2 ≤ i → ok i = true) (C : D) (c : List Int) (ts : List (Option Int)) (hl : c.length = ts.length) (h9 : c.length ≤ 1000) (b : Option Int) (x y z : D) :
    ∃ k, (optO (stT ok (.nm 3) (tD c) [C, tO ts, oD b, x, y, z]) fun ρ2 => evSs gl call fuel bT2 ok ρ2) = .nx [C, tO ts, oD (upd1 b (comeL (c.zip ts))), tD c, oD (comeL (c.zip ts)), k] := by
  have o2 := o 2 (by decide)
  have o3 := o 3 (by decide)
  have o4 := o 4 (by decide)
  have o5 := o 5 (by decide)
  have zl : (c.zip ts).length = c.length := by rw [List.length_zip]; omega
  have ic : ∀ (k : Nat) z, (c.zip ts)[k]? = some z → D.item (tD c) (.int (k : Int)) = some (.int z.1) := fun k z hk => by
    show D.item (.tup (c.map .int)) _ = _
    rw [item_nat, List.getElem?_map, (List.getElem?_zip_eq_some.mp hk).1]; rfl
  have it : ∀ (k : Nat) z, (c.zip ts)[k]? = some z → D.item (tO ts) (.int (k : Int)) = some (oD z.2) := fun k z hk => by
    show D.item (.tup (ts.map oD)) _ = _
    rw [item_nat, List.getElem?_map, (List.getElem?_zip_eq_some.mp hk).2]; rfl
  have hlen : Blt.run .len [tD c] = some (.int (c.length : Int)) := by show Blt.run .len [.tup (c.map .int)] = _; rw [len_tup, List.length_map]
  have nc : (tD c).isNo = false := rfl
  have nT : (tO ts).isNo = false := rfl
  have iT : (tD c).imm = true := immL_ints c
  generalize tD c = cc at *
  generalize tO ts = T at *
  obtain ⟨j, hj, _⟩ := forL_fj (turn := fun dd ρ' => optO (stT ok (.nm 5) dd ρ') fun ρ2 => evSs gl call fuel bT1 ok ρ2) (fun (s : Option Int) (q : D) => [C, T, oD b, cc, oD s, q]) comeS (fun _ _ => True) (fun k (_ : Int × Option Int) => .int (k : Int)) (c.zip ts) 0 (some 0) z trivial
    (fun k a s q hk _ => ⟨⟨.int ((0 + k : Nat) : Int), .inl (by rw [Nat.zero_add]; exact t1_turn gl call ok o4 o5 C T (oD b) cc q nT nc k a (ic k a hk) (it k a hk) s)⟩, trivial⟩)
  rw [encL_rng, zl] at hj
  have hI : evI gl call (.rng1 (.blt .len (.cons (.var 3) .nil))) [C, T, oD b, cc, .int 0, z] = .ok (rngL 0 (c.length : Int), none) [C, T, oD b, cc, .int 0, z] := by
    simp [nc, hlen, rngOk_of (i := (c.length : Int)) (by omega) (by omega), fits_of (n := c.length) (by omega)]
  refine ⟨j, ?_⟩
  have e0 : stT ok (.nm 3) cc [C, T, oD b, x, y, z] = some [C, T, oD b, cc, y, z] := by simp [o3]
  have s0 : evS gl call fuel (.set (.nm 4) (.int 0)) ok [C, T, oD b, cc, y, z] = .nx [C, T, oD b, cc, .int 0, z] := by simp [o4]
  rw [e0, e_optO]
  unfold bT2
  rw [e_cons, s0, e_nx, e_cons, u_loop, hI]
  simp only [e_o_ok, okBut_none]
  have hj : forL (fun dd ρ' => optO (stT ok (.nm 5) dd ρ') fun ρ2 => evSs gl call fuel bT1 ok ρ2) (rngL 0 (c.length : Int)) [C, T, oD b, cc, .int 0, z] = .nx [C, T, oD b, cc, oD (comeL (c.zip ts)), j] := hj
  rw [hj, thaw_nx, e_nx]
  cases hcl : comeL (c.zip ts) with
  | none => simp [oD, upd1]
  | some v =>
    cases b with
    | none => simp [o2, oD, upd1]
    | some b => by_cases h : v < b <;> simp [o2, oD, upd1, h]
def bestL (cs : List (List Int)) (ts : List (Option Int)) : Option Int := (cs.map fun c => comeL (c.zip ts)).foldl upd1 none
theorem b_law_time (gl : Nat → Option D) (call : Nat → List D → R D) (cs : List (List Int)) (ts : List (Option Int)) (hf : ∀ c ∈ cs, c.length = ts.length) (h9 : ts.length ≤ 1000) :
    ∃ r, evSs gl call fuel c__law_time (okP [.tup (cs.map tD), tO ts]) [.tup (cs.map tD), tO ts, .no, .no, .no, .no] = .rt (oD (bestL cs ts)) (.tup (cs.map tD) :: tO ts :: r) := by
  have o : ∀ i, 2 ≤ i → okP [.tup (cs.map tD), tO ts] i = true := fun i hi => by unfold okP; rw [List.getElem?_eq_none (by simpa using hi)]
  obtain ⟨j, hj, _⟩ := forL_fj (turn := fun dd ρ' => optO (stT (okP [.tup (cs.map tD), tO ts]) (.nm 3) dd ρ') fun ρ2 => evSs gl call fuel bT2 (okP [.tup (cs.map tD), tO ts]) ρ2) (fun (s : Option Int) (q : D × D × D) => [.tup (cs.map tD), tO ts, oD s, q.1, q.2.1, q.2.2]) (fun c s => upd1 s (comeL (c.zip ts))) (fun _ _ => True) (fun _ => tD) cs 0 none (.no, .no, .no) trivial
    (fun k c s q hk _ => by
      have mc := List.mem_of_getElem? hk
      have e := hf c mc
      obtain ⟨w, h⟩ := t2_turn gl call _ o (.tup (cs.map tD)) c ts e (by omega) s q.1 q.2.1 q.2.2
      exact ⟨⟨(tD c, oD (comeL (c.zip ts)), w), .inl h⟩, trivial⟩)
  rw [encL_map] at hj
  have hfold : cs.foldl (fun s a => upd1 s (comeL (a.zip ts))) none = bestL cs ts := by unfold bestL; rw [List.foldl_map]
  rw [hfold] at hj
  have iC := immL_tD cs
  have hI : evI gl call (.froz 0) [.tup (cs.map tD), tO ts, .non, .no, .no, .no] = .ok (cs.map tD, none) [.tup (cs.map tD), tO ts, .non, .no, .no, .no] := by simp [items, D.still, iC]
  have s0 : evS gl call fuel (.set (.nm 2) .non) (okP [.tup (cs.map tD), tO ts]) [.tup (cs.map tD), tO ts, .no, .no, .no, .no] = .nx [.tup (cs.map tD), tO ts, .non, .no, .no, .no] := by simp [o 2 (by decide)]
  refine ⟨[oD (bestL cs ts), j.1, j.2.1, j.2.2], ?_⟩
  unfold c__law_time
  unfold bT2 bT1 at hj
  rw [e_cons, s0, e_nx, e_cons, u_loop, hI]
  simp only [e_o_ok, okBut_none]
  have hj := hj
  simp only [show oD none = D.non from rfl] at hj
  rw [hj, thaw_nx, e_nx]
  simp
theorem bestL_eq {cs : List (List Int)} {ts : List (Option Int)} (hf : FitsP ts.length cs) (hp : ∀ t, some t ∈ ts → 0 ≤ t) : bestL cs ts = minI (times cs ts) := by
  unfold bestL times
  rw [upd1_none, List.filterMap_map]
  congr 1
  show cs.filterMap (fun c => comeL (c.zip ts)) = _
  have : ∀ (l : List (List Int)), (∀ c ∈ l, c ∈ cs) → l.filterMap (fun c => comeL (c.zip ts)) = l.filterMap (fun c => come (c.zip ts)) := by
    intro l
    induction l with
    | nil => intro _; rfl
    | cons c l ih =>
      intro h
      obtain ⟨h1, h2⟩ := hf c (h c List.mem_cons_self)
      rw [List.filterMap_cons, List.filterMap_cons, ih fun x m => h x (List.mem_cons_of_mem _ m), comeL_eq (sel_ne h1 h2) fun z mz t e => hp t (by rw [← e]; exact (List.of_mem_zip (show (z.1, z.2) ∈ _ from mz)).2)]
  exact this cs fun _ m => m
end K
end

section
set_option maxRecDepth 100000
set_option linter.all false
namespace K
open Ev
abbrev Dips (call : Nat → List D → R D) : Prop := ∀ (j : Jar) (m : Int), j.Ok → 0 < m → m < 1073741824 → ∃ (v : Int) (j' : Jar), 0 ≤ v ∧ v < m ∧ j'.Ok ∧ call 11 [j.d, .int m] = .ok (.int v) [j'.d, .int m]
theorem jn (j : Jar) : j.d.isNo = false := rfl
theorem ji (j : Jar) : j.d.imm = false := rfl
theorem finJ {x y d : D} (j j' : Jar) (r : Env) : (O.rt d (j'.d :: x :: y :: r)).fin [j.d, x, y] = .ok d [j'.d, x, y] := by
  show R.ok d [j'.d, if x.imm = true then x else x, if y.imm = true then y else y] = _
  simp
theorem finJ3 {x y z d : D} (j j' : Jar) (r : Env) : (O.rt d (j'.d :: x :: y :: z :: r)).fin [j.d, x, y, z] = .ok d [j'.d, x, y, z] := by
  show R.ok d [j'.d, if x.imm = true then x else x, if y.imm = true then y else y, if z.imm = true then z else z] = _
  simp
/-! ### _law_times -/
def bTm : Ss := (.cons (.set (.nm 5) (.call 11 (.cons (.lend 0) (.cons (.lend 2) .nil)))) (.cons (.ite (.cmp .eq (.call 11 (.cons (.lend 0) (.cons (.int 5) .nil))) (.int 4)) (.cons (.set (.nm 5) .non) .nil) .nil) (.cons (.ex (.mth .append (.root 3) (.cons (.mov 5) .nil))) .nil)))
theorem b_law_times (gl : Nat → Option D) (call : Nat → List D → R D) (H : Dips call) (j : Jar) (hj : j.Ok) (mm : Nat) (h0 : mm ≤ 100) (great : Int) (g0 : 0 < great) (g1 : great < 1073741824) :
    ∃ (ts : List (Option Int)) (j' : Jar) (r : Env), ts.length = mm ∧ (∀ v, some v ∈ ts → 0 ≤ v) ∧ j'.Ok ∧ evSs gl call fuel c__law_times (okP [j.d, .int (mm : Int), .int great]) [j.d, .int (mm : Int), .int great, .no, .no, .no] = .rt (tO ts) (j'.d :: .int (mm : Int) :: .int great :: r) := by
  have o : ∀ i, 3 ≤ i → okP [j.d, .int (mm : Int), .int great] i = true := fun i hi => by unfold okP; rw [List.getElem?_eq_none (by simpa using hi)]
  generalize okP [j.d, .int (mm : Int), .int great] = ok at *
  obtain ⟨ρ', e1, j', ts, x, y, rfl, p1, p2, p3⟩ := forL_inv (turn := fun dd ρ' => optO (stT ok (.nm 4) dd ρ') fun ρ2 => evSs gl call fuel bTm ok ρ2)
    (fun i ρ => ∃ (j' : Jar) (ts : List (Option Int)) (x y : D), ρ = [j'.d, .int (mm : Int), .int great, .lst (ts.map oD), x, y] ∧ j'.Ok ∧ ts.length = i ∧ ∀ v, some v ∈ ts → 0 ≤ v) (rngL 0 (mm : Int)) [j.d, .int (mm : Int), .int great, .lst [], .no, .no] 0 ⟨j, [], _, _, rfl, hj, rfl, fun _ m => nomatch m⟩ (fun k q ρ hk hp => by
      obtain ⟨j1, ts, x, y, rfl, p1, p2, p3⟩ := hp
      have hkm : k < mm := by
        have := (List.getElem?_eq_some_iff.mp hk).1
        rw [rngL_0] at this
        simpa using this
      obtain ⟨v1, j2, a1, a2, a3, a4⟩ := H j1 great p1 g0 g1
      obtain ⟨v2, j3, b1, b2, b3, b4⟩ := H j2 5 a3 (by decide) (by decide)
      have hl : ts.length < line := Nat.lt_of_le_of_lt (show ts.length ≤ 100 by omega) (by decide)
      by_cases h : v2 = 4
      · refine ⟨_, .inl (?_ : _ = O.nx [j3.d, .int (mm : Int), .int great, .lst ((ts ++ [none]).map oD), q, .non]), j3, ts ++ [none], q, .non, rfl, b3, by simp; omega, fun v m => ?_⟩
        · unfold bTm; simp [o, jn, a4, b4, h, hl, oD]
        · rcases List.mem_append.mp m with m | m
          · exact p3 v m
          · simp at m
      · refine ⟨_, .inl (?_ : _ = O.nx [j3.d, .int (mm : Int), .int great, .lst ((ts ++ [some v1]).map oD), q, .int v1]), j3, ts ++ [some v1], q, .int v1, rfl, b3, by simp; omega, fun v m => ?_⟩
        · unfold bTm; simp [o, jn, a4, b4, h, hl, oD]
        · rcases List.mem_append.mp m with m | m
          · exact p3 v m
          · simp at m; omega)
  have p2' : ts.length = mm := by rw [rngL_0, List.length_map, List.length_range] at p2; omega
  have hI : evI gl call (.rng1 (.var 1)) [j.d, .int (mm : Int), .int great, .lst [], .no, .no] = .ok (rngL 0 (mm : Int), none) [j.d, .int (mm : Int), .int great, .lst [], .no, .no] := by
    simp [rngOk_of (i := (mm : Int)) (by omega) (by omega), fits_of (n := mm) (by omega)]
  refine ⟨ts, j', [.lst (ts.map oD), x, y], p2', p3, p1, ?_⟩
  unfold c__law_times
  have s0 : evS gl call fuel (.set (.nm 3) (.lst .nil)) ok [j.d, .int (mm : Int), .int great, .no, .no, .no] = .nx [j.d, .int (mm : Int), .int great, .lst [], .no, .no] := by simp [o]
  unfold bTm at e1
  rw [e_cons, s0, e_nx, e_cons, u_loop, hI]
  simp only [e_o_ok, okBut_none]
  rw [e1, thaw_nx, e_nx]
  simp [tO]
/-! ### _law_list -/
def bLc : Ss := (.cons (.set (.nm 10) (.call 11 (.cons (.lend 0) (.cons (.lend 2) .nil)))) (.cons (.ite (.cmp .eq (.call 11 (.cons (.lend 0) (.cons (.int 3) .nil))) (.int 2)) (.cons (.set (.nm 10) (.neg (.int 1))) .nil) .nil) (.cons (.ex (.mth .append (.root 6) (.cons (.mov 10) .nil))) .nil)))
theorem ll_cause (gl : Nat → Option D) (call : Nat → List D → R D) (H : Dips call) (ok : Nat → Bool) (o : ∀ i, 3 ≤ i → ok i = true) (j : Jar) (hj : j.Ok) (mm : Nat) (h0 : mm ≤ 100) (great : Int) (g0 : 0 < great) (g1 : great < 1073741824) (F L K7 K10 : D) :
    ∃ (c : List Int) (j' : Jar) (x y : D), c.length = mm ∧ j'.Ok ∧ evS gl call fuel (.loop (.nm 7) (.rng1 (.var 1)) bLc) ok [j.d, .int (mm : Int), .int great, F, L, .no, .lst [], K7, .no, .no, K10] = .nx [j'.d, .int (mm : Int), .int great, F, L, .no, .lst (c.map .int), x, .no, .no, y] := by
  obtain ⟨ρ', e1, j', c, x, y, rfl, p1, p2⟩ := forL_inv (turn := fun dd ρ' => optO (stT ok (.nm 7) dd ρ') fun ρ2 => evSs gl call fuel bLc ok ρ2)
    (fun i ρ => ∃ (j' : Jar) (c : List Int) (x y : D), ρ = [j'.d, .int (mm : Int), .int great, F, L, .no, .lst (c.map .int), x, .no, .no, y] ∧ j'.Ok ∧ c.length = i) (rngL 0 (mm : Int)) [j.d, .int (mm : Int), .int great, F, L, .no, .lst [], K7, .no, .no, K10] 0 ⟨j, [], _, _, rfl, hj, rfl⟩ (fun k q ρ hk hp => by
      obtain ⟨j1, c, x, y, rfl, p1, p2⟩ := hp
      have hkm : k < mm := by
        have := (List.getElem?_eq_some_iff.mp hk).1
        rw [rngL_0] at this
        simpa using this
      obtain ⟨v1, j2, a1, a2, a3, a4⟩ := H j1 great p1 g0 g1
      obtain ⟨v2, j3, b1, b2, b3, b4⟩ := H j2 3 a3 (by decide) (by decide)
      have hl : c.length < line := Nat.lt_of_le_of_lt (show c.length ≤ 100 by omega) (by decide)
      by_cases h : v2 = 2
      · refine ⟨_, .inl (?_ : _ = O.nx [j3.d, .int (mm : Int), .int great, F, L, .no, .lst ((c ++ [-1]).map .int), q, .no, .no, .int (-1)]), j3, c ++ [-1], q, .int (-1), rfl, b3, by simp; omega⟩
        unfold bLc; simp [o, jn, a4, b4, h, hl]
      · refine ⟨_, .inl (?_ : _ = O.nx [j3.d, .int (mm : Int), .int great, F, L, .no, .lst ((c ++ [v1]).map .int), q, .no, .no, .int v1]), j3, c ++ [v1], q, .int v1, rfl, b3, by simp; omega⟩
        unfold bLc; simp [o, jn, a4, b4, h, hl])
  have p2' : c.length = mm := by rw [rngL_0, List.length_map, List.length_range] at p2; omega
  have hI : evI gl call (.rng1 (.var 1)) [j.d, .int (mm : Int), .int great, F, L, .no, .lst [], K7, .no, .no, K10] = .ok (rngL 0 (mm : Int), none) [j.d, .int (mm : Int), .int great, F, L, .no, .lst [], K7, .no, .no, K10] := by
    simp [rngOk_of (i := (mm : Int)) (by omega) (by omega), fits_of (n := mm) (by omega)]
  refine ⟨c, j', x, y, p2', p1, ?_⟩
  rw [u_loop, hI]
  simp only [e_o_ok, okBut_none]
  rw [e1, thaw_nx]
def Fit1 (mm : Nat) (c : List Int) : Prop := c.length = mm ∧ ∃ x ∈ c, 0 ≤ x
def bLl : Ss := (.cons (.set (.nm 6) (.lst .nil)) (.cons (.loop (.nm 7) (.rng1 (.var 1)) bLc) (.cons (.ite (.cmp .lt (.blt .max (.cons (.var 6) .nil)) (.int 0)) (.cons (.putr 6 (.call 11 (.cons (.lend 0) (.cons (.lend 1) .nil))) (.call 11 (.cons (.lend 0) (.cons (.lend 2) .nil)))) .nil) .nil) (.cons (.ex (.mth .append (.root 3) (.cons (.blt .tuple (.cons (.var 6) .nil)) .nil))) .nil))))
theorem ll_turn (gl : Nat → Option D) (call : Nat → List D → R D) (H : Dips call) (ok : Nat → Bool) (o : ∀ i, 3 ≤ i → ok i = true) (j : Jar) (hj : j.Ok) (mm : Nat) (hm1 : 1 ≤ mm) (h0 : mm ≤ 100) (great : Int) (g0 : 0 < great) (g1 : great < 1073741824) (fs : List (List Int)) (hfs : fs.length ≤ 100) (q L K6 K7 K10 : D) :
    ∃ (c : List Int) (j' : Jar) (x6 x7 x10 : D), Fit1 mm c ∧ j'.Ok ∧ (optO (stT ok (.nm 4) q [j.d, .int (mm : Int), .int great, .lst (fs.map tD), L, .no, K6, K7, .no, .no, K10]) fun ρ2 => evSs gl call fuel bLl ok ρ2) = .nx [j'.d, .int (mm : Int), .int great, .lst ((fs ++ [c]).map tD), q, .no, x6, x7, .no, .no, x10] := by
  obtain ⟨c, j1, x, y, cl, j1ok, hlp⟩ := ll_cause gl call H ok o j hj mm h0 great g0 g1 (.lst (fs.map tD)) q K7 K10
  obtain ⟨v, hv⟩ := maxI_some (xs := c) (by intro e; rw [e] at cl; simp at cl; omega)
  have hm : Blt.run .max [.lst (c.map .int)] = some (.int v) := by rw [max_ints, hv]; rfl
  have e0 : stT ok (.nm 4) q [j.d, .int (mm : Int), .int great, .lst (fs.map tD), L, .no, K6, K7, .no, .no, K10] = some [j.d, .int (mm : Int), .int great, .lst (fs.map tD), q, .no, K6, K7, .no, .no, K10] := by simp [o]
  have s0 : evS gl call fuel (.set (.nm 6) (.lst .nil)) ok [j.d, .int (mm : Int), .int great, .lst (fs.map tD), q, .no, K6, K7, .no, .no, K10] = .nx [j.d, .int (mm : Int), .int great, .lst (fs.map tD), q, .no, .lst [], K7, .no, .no, K10] := by simp [o]
  have hline : fs.length < line := Nat.lt_of_le_of_lt hfs (by decide)
  rw [e0, e_optO]
  unfold bLl
  rw [e_cons, s0, e_nx, e_cons, hlp, e_nx]
  clear hlp e0 s0
  by_cases hneg : v < 0
  · obtain ⟨p, j2, a1, a2, a3, a4⟩ := H j1 great j1ok g0 g1
    obtain ⟨k, j3, b1, b2, b3, b4⟩ := H j2 (mm : Int) a3 (by omega) (by omega)
    obtain ⟨k, rfl⟩ := Int.eq_ofNat_of_zero_le b1
    have hk : k < c.length := by omega
    have hset : (c.map D.int).set k (.int p) = (c.set k p).map D.int := by rw [List.map_set]
    have hpa := putAt_nat (.int p) (c.map .int) k
    rw [List.length_map, if_pos hk, hset] at hpa
    have him := immL_ints (c.set k p)
    refine ⟨c.set k p, j3, .lst ((c.set k p).map .int), x, y, ⟨by simp [cl], p, List.mem_iff_getElem.mpr ⟨k, by simpa using hk, by simp⟩, a1⟩, b3, ?_⟩
    rw [List.map_append, List.map_cons, List.map_nil, show tD (c.set k p) = .tup ((c.set k p).map .int) from rfl]
    have fl : (fs.map tD).length = fs.length := List.length_map ..
    generalize (c.set k p).map D.int = C2 at *
    generalize c.map D.int = C1 at *
    generalize fs.map tD = F at *
    rw [← fl] at hline
    simp [hm, hneg, jn, a4, b4, hpa, him, hline]
  · have him := immL_ints c
    refine ⟨c, j1, .lst (c.map .int), x, y, ⟨cl, v, (maxI_mem hv).1, by omega⟩, j1ok, ?_⟩
    rw [List.map_append, List.map_cons, List.map_nil, show tD c = .tup (c.map .int) from rfl]
    have fl : (fs.map tD).length = fs.length := List.length_map ..
    generalize c.map D.int = C1 at *
    generalize fs.map tD = F at *
    rw [← fl] at hline
    simp [hm, hneg, him, hline]
end K
end

section
set_option maxRecDepth 100000
set_option linter.all false
namespace K
open Ev
/-! ### sorted(set(..)) -/
theorem tups_tD (ts : List (List Int)) : D.tups (ts.map tD) = some ts := by
  induction ts with
  | nil => rfl
  | cons t ts ih =>
    show (D.ints (t.map .int)).bind (fun u => (D.tups (ts.map tD)).map (u :: ·)) = _
    rw [ints_map, ih]; rfl
theorem srt_tD {ts : List (List Int)} (h : sortOk ts = true) : srtRun (.lst (ts.map tD)) = some (.lst ((sortT ts).map tD)) := by
  show (D.tups (ts.map tD)).bind (fun ts => if sortOk ts = true then some (D.lst ((sortT ts).map fun t => .tup (t.map .int))) else none) = _
  rw [tups_tD, Option.bind_some, if_pos h]; rfl
theorem mem_insT' {x z : List Int} : ∀ {ys : List (List Int)}, z ∈ insT x ys ↔ z = x ∨ z ∈ ys
  | [] => by simp [insT]
  | y :: ys => by
    unfold insT
    split
    · rename_i e; subst e; simp
    · split
      · simp
      · simp [mem_insT' (ys := ys)]
        constructor
        · rintro (h | h | h) <;> simp [h]
        · rintro (h | h | h) <;> simp [h]
theorem mem_sortT' {z : List Int} : ∀ {ts : List (List Int)}, z ∈ sortT ts ↔ z ∈ ts
  | [] => by simp [sortT]
  | t :: ts => by
    show z ∈ insT t (sortT ts) ↔ _
    rw [mem_insT', mem_sortT']; simp
theorem sortT_ne {ts : List (List Int)} (h : ts ≠ []) : sortT ts ≠ [] := by
  cases ts with
  | nil => exact absurd rfl h
  | cons t ts => exact List.ne_nil_of_mem (mem_sortT'.mpr List.mem_cons_self)
theorem insT_len (x : List Int) : ∀ ys : List (List Int), (insT x ys).length ≤ ys.length + 1
  | [] => by simp [insT]
  | y :: ys => by
    unfold insT
    split
    · simp
    · split
      · simp
      · simp; exact insT_len x ys
theorem sortT_len : ∀ ts : List (List Int), (sortT ts).length ≤ ts.length
  | [] => Nat.le_refl _
  | t :: ts => by
    show (insT t (sortT ts)).length ≤ _
    have := insT_len t (sortT ts)
    have := sortT_len ts
    rw [List.length_cons]; omega
/-! ### the second walk of _law_list -/
def cmpC : E := (.comp (.bin .sub (.idx (.var 9) (.var 7)) (.idx (.var 6) (.var 7))) (.nm 7) (.rng1 (.var 1)) (.bl true) false [7])
theorem lk_comp (gl : Nat → Option D) (call : Nat → List D → R D) (mm : Nat) (h0 : mm ≤ 100) (c ot : List Int) (hc : c.length = mm) (ho : ot.length = mm) (J G F L P K7 g K10 : D) :
    evM gl call cmpC .v [J, .int (mm : Int), G, F, L, P, tD c, K7, g, tD ot, K10] = .ok (.lst (((ot.zip c).map fun z => z.1 - z.2).map .int)) [J, .int (mm : Int), G, F, L, P, tD c, .no, g, tD ot, K10] := by
  have zl : (ot.zip c).length = mm := by rw [List.length_zip]; omega
  have ic : ∀ (k : Nat) z, (ot.zip c)[k]? = some z → D.item (tD c) (.int (k : Int)) = some (.int z.2) := fun k z hk => by
    show D.item (.tup (c.map .int)) _ = _
    rw [item_nat, List.getElem?_map, (List.getElem?_zip_eq_some.mp hk).2]; rfl
  have io : ∀ (k : Nat) z, (ot.zip c)[k]? = some z → D.item (tD ot) (.int (k : Int)) = some (.int z.1) := fun k z hk => by
    show D.item (.tup (ot.map .int)) _ = _
    rw [item_nat, List.getElem?_map, (List.getElem?_zip_eq_some.mp hk).1]; rfl
  have n1 : (tD c).isNo = false := rfl
  have n2 : (tD ot).isNo = false := rfl
  have hr : rngL 0 (mm : Int) = (ot.zip c).zipIdx.map fun p => D.int (p.2 : Int) := by have := encL_rng (ot.zip c); rw [zl] at this; exact this.symm
  generalize tD c = C at *
  generalize tD ot = O2 at *
  unfold cmpC
  refine (comp_map (fz := none) (ρ1 := [J, .int (mm : Int), G, F, L, P, C, K7, g, O2, K10]) (fun p : (Int × Int) × Nat => D.int (p.2 : Int)) (fun p => some (.int (p.1.1 - p.1.2))) (ot.zip c).zipIdx ?_ (fun p mp => ?_) rfl).trans ?_
  · rw [← hr]
    simp [rngOk_of (i := (mm : Int)) (by omega) (by omega), fits_of (n := mm) (by omega)]
  · obtain ⟨z, k⟩ := p
    have hk : (ot.zip c)[k]? = some z := List.mem_zipIdx_iff_getElem?.mp mp
    have h1 := ic k z hk
    have h2 := io k z hk
    simp [cturn, Ev.wipe, n1, n2, h1, h2]
  · congr 2
    rw [List.filterMap_eq_map']
    have : ∀ (l : List (Int × Int)) (n : Nat), (l.zipIdx n).map (fun p : (Int × Int) × Nat => D.int (p.1.1 - p.1.2)) = (l.map fun z => z.1 - z.2).map .int := by
      intro l
      induction l with
      | nil => intro n; rfl
      | cons a l ih => intro n; rw [List.zipIdx_cons, List.map_cons, ih]; rfl
    exact this _ 0
def bK1 : Ss := (.cons (.ite (.cmp .le (.blt .max (.cons cmpC .nil)) (.int 0)) (.cons (.set (.nm 8) (.bl false)) .nil) .nil) .nil)
def bK2 : Ss := (.cons (.set (.nm 8) (.bl true)) (.cons (.loop (.nm 9) (.froz 5) bK1) (.cons (.ite (.var 8) (.cons (.ex (.mth .append (.root 5) (.cons (.mov 6) .nil))) .nil) .nil) .nil)))
theorem lk_inner (gl : Nat → Option D) (call : Nat → List D → R D) (ok : Nat → Bool) (o : ∀ i, 3 ≤ i → ok i = true) (mm : Nat) (h1 : 1 ≤ mm) (h0 : mm ≤ 100) (c : List Int) (hc : c.length = mm) (ks : List (List Int)) (hk : ∀ k ∈ ks, k.length = mm) (J G F L K7 K9 K10 : D) :
    ∃ (b : Bool) (x y : D), (ks = [] → b = true) ∧ evS gl call fuel (.loop (.nm 9) (.froz 5) bK1) ok [J, .int (mm : Int), G, F, L, .lst (ks.map tD), tD c, K7, .bl true, K9, K10] = .nx [J, .int (mm : Int), G, F, L, .lst (ks.map tD), tD c, x, .bl b, y, K10] := by
  have iK := immL_tD ks
  by_cases hks : ks = []
  · subst hks
    refine ⟨true, K7, K9, fun _ => rfl, ?_⟩
    have nC : (tD c).isNo = false := rfl
    generalize tD c = C at *
    rw [u_loop]
    have hI : evI gl call (.froz 5) [J, .int (mm : Int), G, F, L, .lst [], C, K7, .bl true, K9, K10] = .ok ([], some 5) [J, .int (mm : Int), G, F, L, .rol false [], C, K7, .bl true, K9, K10] := by simp [items, D.still]
    rw [List.map_nil, hI]
    rfl
  obtain ⟨ρ', e1, b, x, y, rfl⟩ := forL_inv (turn := fun dd ρ' => optO (stT (okBut ok (some 5)) (.nm 9) dd ρ') fun ρ2 => evSs gl call fuel bK1 (okBut ok (some 5)) ρ2)
    (fun _ ρ => ∃ (b : Bool) (x y : D), ρ = [J, .int (mm : Int), G, F, L, .rol false (ks.map tD), tD c, x, .bl b, y, K10]) (ks.map tD) [J, .int (mm : Int), G, F, L, .rol false (ks.map tD), tD c, K7, .bl true, K9, K10] 0 ⟨true, _, _, rfl⟩ (fun k q ρ hq hp => by
      obtain ⟨b, x, y, rfl⟩ := hp
      obtain ⟨ot, mo, rfl⟩ := List.mem_map.mp (List.mem_of_getElem? hq)
      have ho := hk ot mo
      have ok9 : okBut ok (some 5) 9 = true := by show (ok 9 && _) = true; rw [o 9 (by decide)]; rfl
      have ok8 : okBut ok (some 5) 8 = true := by show (ok 8 && _) = true; rw [o 8 (by decide)]; rfl
      have ec := lk_comp gl call mm h0 c ot hc ho J G F L (.rol false (ks.map tD)) x (.bl b) K10
      have ne : ((ot.zip c).map fun z => z.1 - z.2) ≠ [] := by
        intro e
        have := congrArg List.length e
        rw [List.length_map, List.length_zip, ho, hc, List.length_nil] at this
        omega
      obtain ⟨v, hv⟩ := maxI_some ne
      have hm : Blt.run .max [.lst (((ot.zip c).map fun z => z.1 - z.2).map .int)] = some (.int v) := by rw [max_ints, hv]; rfl
      generalize ((ot.zip c).map fun z => z.1 - z.2).map D.int = Z at *
      generalize okBut ok (some 5) = okk at *
      unfold cmpC at ec
      generalize ks.map tD = KS at *
      generalize tD c = C at *
      generalize tD ot = OT at *
      by_cases h : v ≤ 0
      · refine ⟨_, .inl (?_ : _ = O.nx [J, .int (mm : Int), G, F, L, .rol false KS, C, .no, .bl false, OT, K10]), false, .no, OT, rfl⟩
        unfold bK1 cmpC
        simp [ok9, ok8, ec, hm, h]
      · refine ⟨_, .inl (?_ : _ = O.nx [J, .int (mm : Int), G, F, L, .rol false KS, C, .no, .bl b, OT, K10]), b, .no, OT, rfl⟩
        unfold bK1 cmpC
        simp [ok9, ok8, ec, hm, h])
  refine ⟨b, x, y, fun z => absurd z hks, ?_⟩
  have hI : evI gl call (.froz 5) [J, .int (mm : Int), G, F, L, .lst (ks.map tD), tD c, K7, .bl true, K9, K10] = .ok (ks.map tD, some 5) [J, .int (mm : Int), G, F, L, .rol false (ks.map tD), tD c, K7, .bl true, K9, K10] := by
    simp [items, D.still, iK]
  rw [u_loop, hI]
  simp only [e_o_ok]
  rw [e1]
  rfl
theorem lk_turn (gl : Nat → Option D) (call : Nat → List D → R D) (ok : Nat → Bool) (o : ∀ i, 3 ≤ i → ok i = true) (mm : Nat) (h1 : 1 ≤ mm) (h0 : mm ≤ 100) (c : List Int) (hc : c.length = mm) (ks : List (List Int)) (hk : ∀ k ∈ ks, k.length = mm) (hkl : ks.length ≤ 1000) (J G F L K6 K7 K8 K9 K10 : D) :
    ∃ (ks' : List (List Int)) (x7 x8 x9 : D), (ks' = ks ++ [c] ∨ (ks' = ks ∧ ks ≠ [])) ∧ (optO (stT ok (.nm 6) (tD c) [J, .int (mm : Int), G, F, L, .lst (ks.map tD), K6, K7, K8, K9, K10]) fun ρ2 => evSs gl call fuel bK2 ok ρ2) = .nx [J, .int (mm : Int), G, F, L, .lst (ks'.map tD), tD c, x7, x8, x9, K10] := by
  obtain ⟨b, x, y, hb, hlp⟩ := lk_inner gl call ok o mm h1 h0 c hc ks hk J G F L K7 K9 K10
  have e0 : stT ok (.nm 6) (tD c) [J, .int (mm : Int), G, F, L, .lst (ks.map tD), K6, K7, K8, K9, K10] = some [J, .int (mm : Int), G, F, L, .lst (ks.map tD), tD c, K7, K8, K9, K10] := by simp [o]
  have s0 : evS gl call fuel (.set (.nm 8) (.bl true)) ok [J, .int (mm : Int), G, F, L, .lst (ks.map tD), tD c, K7, K8, K9, K10] = .nx [J, .int (mm : Int), G, F, L, .lst (ks.map tD), tD c, K7, .bl true, K9, K10] := by simp [o]
  have iC : (tD c).imm = true := immL_ints c
  have nC : (tD c).isNo = false := rfl
  have hline : (ks.map tD).length < line := by rw [List.length_map]; exact Nat.lt_of_le_of_lt hkl (by decide)
  rw [e0, e_optO]
  unfold bK2
  rw [e_cons, s0, e_nx, e_cons, hlp, e_nx]
  clear hlp e0 s0
  cases b with
  | false =>
    refine ⟨ks, x, .bl false, y, .inr ⟨rfl, fun e => by cases hb e⟩, ?_⟩
    simp
  | true =>
    refine ⟨ks ++ [c], x, .bl true, y, .inl rfl, ?_⟩
    rw [List.map_append, List.map_cons, List.map_nil]
    generalize ks.map tD = KS at *
    generalize tD c = C at *
    simp [iC, nC, hline]
theorem b_law_list (gl : Nat → Option D) (call : Nat → List D → R D) (H : Dips call) (j : Jar) (hj : j.Ok) (mm : Nat) (h1 : 1 ≤ mm) (h0 : mm ≤ 100) (great : Int) (g0 : 0 < great) (g1 : great < 1073741824) :
    ∃ (cs : List (List Int)) (j' : Jar) (r : Env), cs ≠ [] ∧ cs.length ≤ 10 ∧ FitsP mm cs ∧ j'.Ok ∧ evSs gl call fuel c__law_list (okP [j.d, .int (mm : Int), .int great]) [j.d, .int (mm : Int), .int great, .no, .no, .no, .no, .no, .no, .no, .no] = .rt (.tup (cs.map tD)) (j'.d :: .int (mm : Int) :: .int great :: r) := by
  have o : ∀ i, 3 ≤ i → okP [j.d, .int (mm : Int), .int great] i = true := fun i hi => by unfold okP; rw [List.getElem?_eq_none (by simpa using hi)]
  generalize okP [j.d, .int (mm : Int), .int great] = ok at *
  -- the causes found
  obtain ⟨v, j1, v1, v2, v3, v4⟩ := H j 4 hj (by decide) (by decide)
  obtain ⟨x, mx, hx⟩ := tab (xs := [2, 3, 1, 5]) v1 (by simpa using v2)
  have hx0 : 1 ≤ x ∧ x ≤ 5 := by simp at mx; omega
  have hx : D.item (.lst [.int 2, .int 3, .int 1, .int 5]) (.int v) = some (.int x) := hx
  obtain ⟨n, rfl⟩ : ∃ n : Nat, x = (n : Int) := ⟨x.toNat, by omega⟩
  have s0 : evS gl call fuel (.set (.nm 3) (.lst .nil)) ok [j.d, .int (mm : Int), .int great, .no, .no, .no, .no, .no, .no, .no, .no] = .nx [j.d, .int (mm : Int), .int great, .lst [], .no, .no, .no, .no, .no, .no, .no] := by simp [o]
  have hI : evI gl call (.rng1 (.idx (.lst (.cons (.int 2) (.cons (.int 3) (.cons (.int 1) (.cons (.int 5) .nil))))) (.call 11 (.cons (.lend 0) (.cons (.int 4) .nil))))) [j.d, .int (mm : Int), .int great, .lst [], .no, .no, .no, .no, .no, .no, .no] = .ok (rngL 0 (n : Int), none) [j1.d, .int (mm : Int), .int great, .lst [], .no, .no, .no, .no, .no, .no, .no] := by
    simp [jn, v4, hx, rngOk_of (i := (n : Int)) (by omega) (by omega), fits_of (n := n) (by omega)]
  obtain ⟨ρ', e1, j2, fs, L, x6, x7, x10, rfl, p1, p2, p3⟩ := forL_inv (turn := fun dd ρ' => optO (stT ok (.nm 4) dd ρ') fun ρ2 => evSs gl call fuel bLl ok ρ2)
    (fun i ρ => ∃ (j' : Jar) (fs : List (List Int)) (L x6 x7 x10 : D), ρ = [j'.d, .int (mm : Int), .int great, .lst (fs.map tD), L, .no, x6, x7, .no, .no, x10] ∧ j'.Ok ∧ fs.length = i ∧ FitsP mm fs) (rngL 0 (n : Int)) [j1.d, .int (mm : Int), .int great, .lst [], .no, .no, .no, .no, .no, .no, .no] 0 ⟨j1, [], _, _, _, _, rfl, v3, rfl, fun _ m => nomatch m⟩ (fun k q ρ hk hp => by
      obtain ⟨j', fs, L, x6, x7, x10, rfl, p1, p2, p3⟩ := hp
      have hkm : k < n := by
        have := (List.getElem?_eq_some_iff.mp hk).1
        rw [rngL_0] at this
        simpa using this
      obtain ⟨c, j2, y6, y7, y10, fc, q1, q2⟩ := ll_turn gl call H ok o j' p1 mm h1 h0 great g0 g1 fs (by omega) q L x6 x7 x10
      exact ⟨_, .inl q2, j2, fs ++ [c], q, y6, y7, y10, rfl, q1, by simp; omega, fun c' m => by
        rcases List.mem_append.mp m with m | m
        · exact p3 c' m
        · rw [List.mem_singleton.mp m]; exact fc⟩)
  have p2' : fs.length = n := by rw [rngL_0, List.length_map, List.length_range] at p2; omega
  have fne : fs ≠ [] := by intro e; rw [e] at p2'; simp at p2'; omega
  -- what is kept of them
  have hok : sortOk fs = true := by
    unfold sortOk
    rw [Bool.and_eq_true, decide_eq_true_eq, List.all_eq_true]
    refine ⟨by omega, fun t mt => ?_⟩
    obtain ⟨t1, _⟩ := p3 t mt
    rw [Bool.and_eq_true, decide_eq_true_eq]
    refine ⟨?_, by omega⟩
    cases t with
    | nil => simp at t1; omega
    | cons _ _ => rfl
  have hsrt := srt_tD hok
  have sf : ∀ t ∈ sortT fs, Fit1 mm t := fun t m => p3 t (mem_sortT'.mp m)
  have sl := sortT_len fs
  have sne := sortT_ne fne
  obtain ⟨ρ'', e2, ks, x6', x7', x8', x9', rfl, r1, r2, r3⟩ := forL_inv (turn := fun dd ρ' => optO (stT ok (.nm 6) dd ρ') fun ρ2 => evSs gl call fuel bK2 ok ρ2)
    (fun i ρ => ∃ (ks : List (List Int)) (x6 x7 x8 x9 : D), ρ = [j2.d, .int (mm : Int), .int great, .lst (fs.map tD), L, .lst (ks.map tD), x6, x7, x8, x9, x10] ∧ FitsP mm ks ∧ ks.length ≤ i ∧ (0 < i → ks ≠ [])) ((sortT fs).map tD) [j2.d, .int (mm : Int), .int great, .lst (fs.map tD), L, .lst [], x6, x7, .no, .no, x10] 0 ⟨[], _, _, _, _, rfl, fun _ m => (nomatch m), Nat.le_refl _, fun h => absurd h (by omega)⟩ (fun k q ρ hk hp => by
      obtain ⟨ks, y6, y7, y8, y9, rfl, q1, q2, q3⟩ := hp
      obtain ⟨c, mc, rfl⟩ := List.mem_map.mp (List.mem_of_getElem? hk)
      have hkm : k < (sortT fs).length := by
        have := (List.getElem?_eq_some_iff.mp hk).1
        simpa using this
      obtain ⟨ks', z7, z8, z9, hk', hr⟩ := lk_turn gl call ok o mm h1 h0 c (sf c mc).1 ks (fun k m => (q1 k m).1) (by omega) j2.d (.int great) (.lst (fs.map tD)) L y6 y7 y8 y9 x10
      refine ⟨_, .inl hr, ks', tD c, z7, z8, z9, rfl, ?_, ?_, fun _ => ?_⟩
      · rcases hk' with rfl | ⟨rfl, _⟩
        · intro c' m
          rcases List.mem_append.mp m with m | m
          · exact q1 c' m
          · rw [List.mem_singleton.mp m]; exact sf c mc
        · exact q1
      · rcases hk' with rfl | ⟨rfl, _⟩
        · simp; omega
        · omega
      · rcases hk' with rfl | ⟨rfl, h⟩
        · simp
        · exact h)
  rw [List.length_map, Nat.zero_add] at r2 r3
  refine ⟨ks, j2, [.lst (fs.map tD), L, .lst (ks.map tD), x6', x7', x8', x9', x10], r3 (List.length_pos_iff.mpr sne), by omega, r1, p1, ?_⟩
  have iS := immL_tD (sortT fs)
  have iKs := immL_tD ks
  have s2 : evS gl call fuel (.set (.nm 5) (.lst .nil)) ok [j2.d, .int (mm : Int), .int great, .lst (fs.map tD), L, .no, x6, x7, .no, .no, x10] = .nx [j2.d, .int (mm : Int), .int great, .lst (fs.map tD), L, .lst [], x6, x7, .no, .no, x10] := by simp [o]
  have hI2 : evI gl call (.seq (.srt (.var 3))) [j2.d, .int (mm : Int), .int great, .lst (fs.map tD), L, .lst [], x6, x7, .no, .no, x10] = .ok ((sortT fs).map tD, none) [j2.d, .int (mm : Int), .int great, .lst (fs.map tD), L, .lst [], x6, x7, .no, .no, x10] := by
    generalize fs.map tD = FS at *
    generalize (sortT fs).map tD = SS at *
    simp [hsrt, items, iS]
  unfold c__law_list
  unfold bLl bLc at e1
  unfold bK2 bK1 cmpC at e2
  rw [e_cons, s0, e_nx, e_cons, u_loop, hI]
  simp only [e_o_ok, okBut_none]
  rw [e1, thaw_nx, e_nx, e_cons, s2, e_nx, e_cons, u_loop, hI2]
  simp only [e_o_ok, okBut_none]
  rw [e2, thaw_nx, e_nx]
  generalize ks.map tD = KS at *
  simp [iKs]
end K
end

section
set_option maxRecDepth 100000
set_option linter.all false
namespace K
open Ev
@[simp] theorem reord1 (a : Option Nat × D) : reord 0 [0] [a] = [a] := by rfl
@[simp] theorem int_bl (b : Bool) : Blt.run .int [.bl b] = some (.int (if b then 1 else 0)) := id rfl
theorem b_asked (gl : Nat → Option D) (call : Nat → List D → R D) (T d o : D) (iT : T.imm = true) (id : d.imm = true) (io : o.imm = true) (c9 : call 9 [.tup [T, d]] = .ok o [.tup [T, d]]) (c14 : call 14 [T, d] = .ok o [T, d]) (c12 : call 12 [o, o] = .ok (.bl true) [o, o]) :
    evSs gl call fuel c__law_asked (okP [T, d]) [T, d] = .rt (.bl true) [T, d] := by
  have nT := imm_no iT
  have nd := imm_no id
  unfold c__law_asked
  simp [iT, id, nT, nd, c9, c14, c12]
/-! ### _law_own_asked -/
def oa0 : S := (.set (.nm 3) (.blt .list (.cons (.call 17 (.cons (.lend 0) (.cons (.lend 1) (.cons (.lend 2) .nil)))) .nil)))
def oa1 : S := (.set (.nm 4) (.call 11 (.cons (.lend 0) (.cons (.lend 1) .nil))))
def oa2 : S := (.put (.at (.root 3) (.var 4)) (.call 11 (.cons (.lend 0) (.cons (.lend 2) .nil))))
def oa3 : S := (.set (.nm 3) (.blt .tuple (.cons (.var 3) .nil)))
def oa4 : S := (.loop (.nm 5) (.seq (.lst (.cons (.idx (.var 3) (.var 4)) (.cons (.bin .add (.idx (.var 3) (.var 4)) (.call 11 (.cons (.lend 0) (.cons (.int 4) .nil)))) (.cons (.blt .max (.cons (.bin .sub (.idx (.var 3) (.var 4)) (.int 1)) (.cons (.int 0) .nil))) (.cons .non (.cons (.call 11 (.cons (.lend 0) (.cons (.lend 2) .nil))) .nil))))))) (.cons (.ite (.not (.call 18 (.cons (.lend 3) (.cons (.lend 5) .nil)))) (.cons (.ret (.bl false)) .nil) .nil) .nil))
def oa5 : S := (.set (.nm 5) (.call 11 (.cons (.lend 0) (.cons (.lend 2) .nil))))
def oa6 : S := (.set (.nm 6) (.blt .tuple (.cons (.comp (.ite (.cmp .isn (.var 7) .non) (.bin .add (.bin .add (.var 7) (.var 5)) (.int 1)) .non) (.nm 7) (.froz 3) (.bl true) false [7]) .nil)))
def oa7 : S := (.ite (.or (.not (.call 18 (.cons (.lend 6) (.cons (.lend 5) .nil)))) (.or (.not (.call 18 (.cons (.bin .mul (.tup (.cons .non .nil)) (.var 1)) (.cons (.lend 5) .nil)))) (.not (.call 18 (.cons (.bin .mul (.tup (.cons (.int 0) .nil)) (.var 1)) (.cons (.int 0) .nil)))))) (.cons (.ret (.bl false)) .nil) .nil)
def oa8 : S := (.ret (.call 12 (.cons (.callk 9 0 [0] (.cons (.tup (.cons (.mov 6) (.cons (.bin .add (.bin .add (.var 5) (.idx (.var 3) (.var 4))) (.int 1)) .nil))) .nil)) (.cons (.call 14 (.cons (.lend 6) (.cons (.bin .add (.bin .add (.var 5) (.idx (.var 3) (.var 4))) (.int 1)) .nil))) .nil))))
theorem oa_eq : c__law_own_asked = (.cons oa0 (.cons oa1 (.cons oa2 (.cons oa3 (.cons oa4 (.cons oa5 (.cons oa6 (.cons oa7 (.cons oa8 .nil))))))))) := rfl
theorem oa_a (gl : Nat → Option D) (call : Nat → List D → R D) (mm : Nat) (great : Int) (ok : Nat → Bool) (o : ∀ i, 3 ≤ i → ok i = true) (J0 J1 J2 J3 : D) (n0 : J0.isNo = false) (n1 : J1.isNo = false) (n2 : J2.isNo = false) (ts : List (Option Int)) (k : Nat) (hk : k < ts.length) (p : Int) (c17 : call 17 [J0, .int (mm : Int), .int great] = .ok (tO ts) [J1, .int (mm : Int), .int great])
    (c1 : call 11 [J1, .int (mm : Int)] = .ok (.int (k : Int)) [J2, .int (mm : Int)]) (c2 : call 11 [J2, .int great] = .ok (.int p) [J3, .int great]) (rest : Ss) :
    evSs gl call fuel (.cons oa0 (.cons oa1 (.cons oa2 (.cons oa3 rest)))) ok [J0, .int (mm : Int), .int great, .no, .no, .no, .no, .no] = evSs gl call fuel rest ok [J3, .int (mm : Int), .int great, tO (ts.set k (some p)), .int (k : Int), .no, .no, .no] := by
  have o3 := o 3 (by decide)
  have o4 := o 4 (by decide)
  have hset : (ts.map oD).set k (.int p) = (ts.set k (some p)).map oD := by rw [List.map_set]; rfl
  have hpa := putAt_nat (.int p) (ts.map oD) k
  rw [List.length_map, if_pos hk, hset] at hpa
  have hl : Blt.run .list [tO ts] = some (.lst (ts.map oD)) := by
    show (if D.immL (ts.map oD) = true then _ else _) = _
    rw [immL_oD]; rfl
  have ht : Blt.run .tuple [.lst ((ts.set k (some p)).map oD)] = some (tO (ts.set k (some p))) := by rw [tup_lst, immL_oD]; rfl
  have nT : (tO ts).isNo = false := rfl
  have iT : (tO ts).imm = true := immL_oD ts
  generalize (ts.set k (some p)).map oD = L2 at *
  generalize tO (ts.set k (some p)) = T2 at *
  generalize ts.map oD = L1 at *
  generalize tO ts = T1 at *
  unfold oa0 oa1 oa2 oa3
  simp [-tup_lst, n0, n1, n2, c17, c1, c2, o3, o4, hl, ht, hpa, nT, iT]
theorem oa_b (gl : Nat → Option D) (call : Nat → List D → R D) (mm : Nat) (great : Int) (ok : Nat → Bool) (o : ∀ i, 3 ≤ i → ok i = true) (J0 J1 J2 : D) (n0 : J0.isNo = false) (n1 : J1.isNo = false) (T : D) (iT : T.imm = true) (k : Nat) (p v q : Int) (hit : D.item T (.int (k : Int)) = some (.int p)) (c1 : call 11 [J0, .int 4] = .ok (.int v) [J1, .int 4]) (c2 : call 11 [J1, .int great] = .ok (.int q) [J2, .int great])
    (c18 : ∀ due : Option Int, call 18 [T, oD due] = .ok (.bl true) [T, oD due]) :
    ∃ x, evS gl call fuel oa4 ok [J0, .int (mm : Int), .int great, T, .int (k : Int), .no, .no, .no] = .nx [J2, .int (mm : Int), .int great, T, .int (k : Int), x, .no, .no] := by
  have o5 := o 5 (by decide)
  have nT := imm_no iT
  have mx : Blt.run .max [.int (p - 1), .int 0] = some (.int (if 0 > p - 1 then 0 else p - 1)) := rfl
  obtain ⟨ρ', e1, x, rfl⟩ := forL_inv (turn := fun dd ρ' => optO (stT ok (.nm 5) dd ρ') fun ρ2 => evSs gl call fuel (.cons (.ite (.not (.call 18 (.cons (.lend 3) (.cons (.lend 5) .nil)))) (.cons (.ret (.bl false)) .nil) .nil) .nil) ok ρ2)
    (fun _ ρ => ∃ x, ρ = [J2, .int (mm : Int), .int great, T, .int (k : Int), x, .no, .no]) ([some p, some (p + v), some (if 0 > p - 1 then 0 else p - 1), none, some q].map oD) [J2, .int (mm : Int), .int great, T, .int (k : Int), .no, .no, .no] 0 ⟨_, rfl⟩ (fun i d ρ hi hp => by
      obtain ⟨x, rfl⟩ := hp
      obtain ⟨due, _, rfl⟩ := List.mem_map.mp (List.mem_of_getElem? hi)
      have c := c18 due
      exact ⟨_, .inl (by simp [o5, nT, c]), oD due, rfl⟩)
  have hI : evI gl call (.seq (.lst (.cons (.idx (.var 3) (.var 4)) (.cons (.bin .add (.idx (.var 3) (.var 4)) (.call 11 (.cons (.lend 0) (.cons (.int 4) .nil)))) (.cons (.blt .max (.cons (.bin .sub (.idx (.var 3) (.var 4)) (.int 1)) (.cons (.int 0) .nil))) (.cons .non (.cons (.call 11 (.cons (.lend 0) (.cons (.lend 2) .nil))) .nil))))))) [J0, .int (mm : Int), .int great, T, .int (k : Int), .no, .no, .no] = .ok ([some p, some (p + v), some (if 0 > p - 1 then 0 else p - 1), none, some q].map oD, none) [J2, .int (mm : Int), .int great, T, .int (k : Int), .no, .no, .no] := by
    simp [-max_two, nT, hit, n0, n1, c1, c2, mx, items, oD]
  refine ⟨x, ?_⟩
  unfold oa4
  rw [u_loop, hI]
  simp only [e_o_ok, okBut_none]
  rw [e1, thaw_nx]
theorem oa_c (gl : Nat → Option D) (call : Nat → List D → R D) (mm : Nat) (great : Int) (ok : Nat → Bool) (o : ∀ i, 3 ≤ i → ok i = true) (h1 : 1 ≤ mm) (h0 : mm ≤ 100) (J0 J1 : D) (n0 : J0.isNo = false) (ts : List (Option Int)) (k : Nat) (p d : Int) (x : D) (hit : ts[k]? = some (some p)) (c1 : call 11 [J0, .int great] = .ok (.int d) [J1, .int great])
    (c18 : ∀ (us : List (Option Int)) (due : Option Int), us = ts.map (fun t => t.map fun t => t + d + 1) ∨ us = List.replicate mm none ∨ us = List.replicate mm (some 0) → call 18 [tO us, oD due] = .ok (.bl true) [tO us, oD due])
    (ow : D) (iw : ow.imm = true) (c9 : call 9 [.tup [tO (ts.map (fun t => t.map fun t => t + d + 1)), .int (d + p + 1)]] = .ok ow [.tup [tO (ts.map (fun t => t.map fun t => t + d + 1)), .int (d + p + 1)]])
    (c14 : call 14 [tO (ts.map (fun t => t.map fun t => t + d + 1)), .int (d + p + 1)] = .ok ow [tO (ts.map (fun t => t.map fun t => t + d + 1)), .int (d + p + 1)]) (c12 : call 12 [ow, ow] = .ok (.bl true) [ow, ow]) :
    evSs gl call fuel (.cons oa5 (.cons oa6 (.cons oa7 (.cons oa8 .nil)))) ok [J0, .int (mm : Int), .int great, tO ts, .int (k : Int), x, .no, .no] = .rt (.bl true) [J1, .int (mm : Int), .int great, tO ts, .int (k : Int), .int d, tO (ts.map (fun t => t.map fun t => t + d + 1)), .no] := by
  have o5 := o 5 (by decide)
  have o6 := o 6 (by decide)
  have ec : evM gl call (.comp (.ite (.cmp .isn (.var 7) .non) (.bin .add (.bin .add (.var 7) (.var 5)) (.int 1)) .non) (.nm 7) (.froz 3) (.bl true) false [7]) .v [J1, .int (mm : Int), .int great, tO ts, .int (k : Int), .int d, .no, .no] = .ok (.lst ((ts.map (fun t => t.map fun t => t + d + 1)).map oD)) [J1, .int (mm : Int), .int great, tO ts, .int (k : Int), .int d, .no, .no] := by
    refine (comp_map (fz := none) (ρ1 := [J1, .int (mm : Int), .int great, tO ts, .int (k : Int), .int d, .no, .no]) oD (fun t => some (oD (t.map fun t => t + d + 1))) ts ?_ (fun t mt => ?_) rfl).trans ?_
    · simp [items, D.still, tO]
    · cases t <;> simp [cturn, Ev.wipe, oD]
    · rw [List.filterMap_eq_map', List.map_map]; rfl
  have l18 := c18 _ (some d) (.inl rfl)
  have r18 := c18 _ (some d) (.inr (.inl rfl))
  have z18 := c18 _ (some 0) (.inr (.inr rfl))
  have en : tO (List.replicate mm none) = .tup (List.replicate mm .non) := by unfold tO; rw [List.map_replicate]; rfl
  have ez : tO (List.replicate mm (some 0)) = .tup (List.replicate mm (.int 0)) := by unfold tO; rw [List.map_replicate]; rfl
  rw [en] at r18
  rw [ez] at z18
  simp only [oD] at l18 r18 z18
  have om := o_rep (x := .non) rfl h1 (show mm ≤ 1000 by omega)
  have oz := o_rep (x := .int 0) rfl h1 (show mm ≤ 1000 by omega)
  have hT : D.item (tO ts) (.int (k : Int)) = some (.int p) := by show D.item (.tup (ts.map oD)) _ = _; rw [item_nat, List.getElem?_map, hit]; rfl
  have ht : Blt.run .tuple [.lst ((ts.map (fun t => t.map fun t => t + d + 1)).map oD)] = some (tO (ts.map (fun t => t.map fun t => t + d + 1))) := by rw [tup_lst, immL_oD]; rfl
  have nL : (tO (ts.map (fun t => t.map fun t => t + d + 1))).isNo = false := rfl
  have iL : (tO (ts.map (fun t => t.map fun t => t + d + 1))).imm = true := immL_oD _
  have nT : (tO ts).isNo = false := rfl
  have him : D.immL (List.replicate mm D.non) = true := immL_of fun x m => by rw [(List.mem_replicate.mp m).2]; rfl
  have hiz : D.immL (List.replicate mm (D.int 0)) = true := immL_of fun x m => by rw [(List.mem_replicate.mp m).2]; rfl
  have s6 : evS gl call fuel oa6 ok [J1, .int (mm : Int), .int great, tO ts, .int (k : Int), .int d, .no, .no] = .nx [J1, .int (mm : Int), .int great, tO ts, .int (k : Int), .int d, tO (ts.map (fun t => t.map fun t => t + d + 1)), .no] := by
    unfold oa6
    rw [u_set, x_blt, x_bsc, b_comp, ec]
    generalize (ts.map (fun t => t.map fun t => t + d + 1)).map oD = LL at *
    generalize tO (ts.map (fun t => t.map fun t => t + d + 1)) = TT at *
    simp [-tup_lst, ht, o6]
  have s5 : evS gl call fuel oa5 ok [J0, .int (mm : Int), .int great, tO ts, .int (k : Int), x, .no, .no] = .nx [J1, .int (mm : Int), .int great, tO ts, .int (k : Int), .int d, .no, .no] := by
    unfold oa5
    simp [n0, c1, o5]
  rw [e_cons, s5, e_nx, e_cons, s6, e_nx]
  clear s5 s6 ec ht
  generalize tO (ts.map (fun t => t.map fun t => t + d + 1)) = TT at *
  generalize tO ts = T at *
  unfold oa7 oa8
  simp [l18, r18, z18, om, oz, hT, nL, iL, nT, him, hiz, c9, c14, c12, iw, imm_no iw]
/-! ### _law_changed -/
def ch0 : S := (.set (.nm 3) (.call 11 (.cons (.lend 0) (.cons (.blt .len (.cons (.var 1) .nil)) .nil))))
def ch1 : S := (.set (.nm 4) (.idx (.idx (.var 1) (.var 3)) (.int 0)))
def ch2 : S := (.set (.nm 5) (.idx (.idx (.var 1) (.var 3)) (.int 1)))
def ch3 : S := (.set (.nm 6) (.call 11 (.cons (.lend 0) (.cons (.int 3) .nil))))
def ch4 : S := (.ite (.cmp .is (.var 5) .non) (.cons (.set (.nm 7) (.idx (.lst (.cons (.int 0) (.cons (.call 11 (.cons (.lend 0) (.cons (.lend 2) .nil))) (.cons (.int 99999) .nil)))) (.var 6))) .nil) (.cons (.set (.nm 7) (.idx (.lst (.cons (.bin .add (.var 5) (.int 1)) (.cons .non (.cons (.bin .add (.blt .max (.cons (.bin .sub (.var 5) (.int 1)) (.cons (.int 0) .nil))) (.bin .mul (.int 2) (.blt .int (.cons (.cmp .eq (.var 5) (.int 0)) .nil)))) .nil)))) (.var 6))) .nil))
def ch5 : S := (.ret (.bin .add (.bin .add (.slc (.var 1) .part (.var 3)) (.tup (.cons (.tup (.cons (.mov 4) (.cons (.mov 7) .nil))) .nil))) (.slc (.var 1) (.bin .add (.var 3) (.int 1)) .part)))
theorem ch_eq : c__law_changed = (.cons ch0 (.cons ch1 (.cons ch2 (.cons ch3 (.cons ch4 (.cons ch5 .nil)))))) := rfl
theorem ch_none (gl : Nat → Option D) (call : Nat → List D → R D) (J0 J1 J2 X Y : D) (n0 : J0.isNo = false) (n1 : J1.isNo = false) (n2 : J2.isNo = false) (W : List D) (hW : D.immL W = true) (hl : W.length ≤ 1000) (k wy : Nat) (hwy : wy < 3) (great : Int) (hw : W[k]? = some Y) (hY : Y.imm = true) (i0 : D.item Y (.int 0) = some X) (hX : X.imm = true) (c1 : call 11 [J0, .int (W.length : Int)] = .ok (.int (k : Int)) [J1, .int (W.length : Int)]) (c2 : call 11 [J1, .int 3] = .ok (.int (wy : Int)) [J2, .int 3]) (ok : Nat → Bool) (o : ∀ i, 3 ≤ i → ok i = true) (J3 : D) (p : Int) (i1 : D.item Y (.int 1) = some .non) (c3 : call 11 [J2, .int great] = .ok (.int p) [J3, .int great]) : ∃ (f : Option Int) (r : Env), f ≠ none ∧ evSs gl call fuel c__law_changed ok [J0, .tup W, .int great, .no, .no, .no, .no, .no] = .rt (.tup (W.take k ++ [.tup [X, oD f]] ++ W.drop (k + 1))) (J3 :: .tup W :: .int great :: r) := by
  have o3 := o 3 (by decide)
  have o4 := o 4 (by decide)
  have o5 := o 5 (by decide)
  have o6 := o 6 (by decide)
  have o7 := o 7 (by decide)
  have nX := imm_no hX
  have sd : D.slice (.tup W) (some ((k : Int) + 1)) none = some (.tup (W.drop (k + 1))) := by have := slice_drop W (k + 1); rw [if_pos hW] at this; exact this
  have fin : ∀ f : Option Int, Op2.run .add (.tup (W.take k)) (.tup [.tup [X, oD f]]) = some (.tup (W.take k ++ [.tup [X, oD f]])) ∧ Op2.run .add (.tup (W.take k ++ [.tup [X, oD f]])) (.tup (W.drop (k + 1))) = some (.tup (W.take k ++ [.tup [X, oD f]] ++ W.drop (k + 1))) := fun f => add3 hW hl (by simp [hX]) k (k + 1)
  rw [ch_eq]
  unfold ch0 ch1 ch2 ch3 ch4 ch5
  match wy, hwy with
  | 0, _ => exact ⟨some 0, [.int (k : Int), X, .non, .int 0, .int 0], by simp, by have := fin (some 0); simp only [oD] at this; simp [-List.append_assoc, n0, n1, n2, hw, hY, i1, i0, hX, nX, c1, c2, c3, o3, o4, o5, o6, o7, slice_take, sd, hW, oD, this]⟩
  | 1, _ => exact ⟨some p, [.int (k : Int), X, .non, .int 1, .int p], by simp, by have := fin (some p); simp only [oD] at this; simp [-List.append_assoc, n0, n1, n2, hw, hY, i1, i0, hX, nX, c1, c2, c3, o3, o4, o5, o6, o7, slice_take, sd, hW, oD, this]⟩
  | 2, _ => exact ⟨some 99999, [.int (k : Int), X, .non, .int 2, .int 99999], by simp, by have := fin (some 99999); simp only [oD] at this; simp [-List.append_assoc, n0, n1, n2, hw, hY, i1, i0, hX, nX, c1, c2, c3, o3, o4, o5, o6, o7, slice_take, sd, hW, oD, this]⟩
theorem ch_some (gl : Nat → Option D) (call : Nat → List D → R D) (J0 J1 J2 X Y : D) (n0 : J0.isNo = false) (n1 : J1.isNo = false) (n2 : J2.isNo = false) (W : List D) (hW : D.immL W = true) (hl : W.length ≤ 1000) (k wy : Nat) (hwy : wy < 3) (great : Int) (hw : W[k]? = some Y) (hY : Y.imm = true) (i0 : D.item Y (.int 0) = some X) (hX : X.imm = true) (c1 : call 11 [J0, .int (W.length : Int)] = .ok (.int (k : Int)) [J1, .int (W.length : Int)]) (c2 : call 11 [J1, .int 3] = .ok (.int (wy : Int)) [J2, .int 3]) (ok : Nat → Bool) (o : ∀ i, 3 ≤ i → ok i = true) (d : Int) (hd : 0 ≤ d) (i1 : D.item Y (.int 1) = some (.int d)) : ∃ (f : Option Int) (r : Env), f ≠ some d ∧ evSs gl call fuel c__law_changed ok [J0, .tup W, .int great, .no, .no, .no, .no, .no] = .rt (.tup (W.take k ++ [.tup [X, oD f]] ++ W.drop (k + 1))) (J2 :: .tup W :: .int great :: r) := by
  have o3 := o 3 (by decide)
  have o4 := o 4 (by decide)
  have o5 := o 5 (by decide)
  have o6 := o 6 (by decide)
  have o7 := o 7 (by decide)
  have nX := imm_no hX
  have sd : D.slice (.tup W) (some ((k : Int) + 1)) none = some (.tup (W.drop (k + 1))) := by have := slice_drop W (k + 1); rw [if_pos hW] at this; exact this
  have fin : ∀ f : Option Int, Op2.run .add (.tup (W.take k)) (.tup [.tup [X, oD f]]) = some (.tup (W.take k ++ [.tup [X, oD f]])) ∧ Op2.run .add (.tup (W.take k ++ [.tup [X, oD f]])) (.tup (W.drop (k + 1))) = some (.tup (W.take k ++ [.tup [X, oD f]] ++ W.drop (k + 1))) := fun f => add3 hW hl (by simp [hX]) k (k + 1)
  rw [ch_eq]
  unfold ch0 ch1 ch2 ch3 ch4 ch5
  have mx : Blt.run .max [.int (d - 1), .int 0] = some (.int (if 0 > d - 1 then 0 else d - 1)) := rfl
  have m2 : ∀ b : Bool, Op2.run .mul (.int 2) (.int (if b then 1 else 0)) = some (.int (2 * (if b then 1 else 0))) := fun b => o_mul (by cases b <;> decide)
  match wy, hwy with
  | 0, _ => exact ⟨some (d + 1), [.int (k : Int), X, .int d, .int 0, oD (some (d + 1))], by intro e; injection e with e; omega, by have := fin (some (d + 1)); have mm2 := m2 (decide (d = 0)); simp only [oD] at this; simp [-List.append_assoc, -max_two, -decide_eq_true_eq, n0, n1, n2, hw, hY, i1, i0, hX, nX, c1, c2, o3, o4, o5, o6, o7, slice_take, sd, hW, oD, this, mx, mm2]⟩
  | 1, _ => exact ⟨none, [.int (k : Int), X, .int d, .int 1, oD (none)], by simp, by have := fin (none); have mm2 := m2 (decide (d = 0)); simp only [oD] at this; simp [-List.append_assoc, -max_two, -decide_eq_true_eq, n0, n1, n2, hw, hY, i1, i0, hX, nX, c1, c2, o3, o4, o5, o6, o7, slice_take, sd, hW, oD, this, mx, mm2]⟩
  | 2, _ => exact ⟨some ((if 0 > d - 1 then 0 else d - 1) + 2 * (if decide (d = 0) then 1 else 0)), [.int (k : Int), X, .int d, .int 2, oD (some ((if 0 > d - 1 then 0 else d - 1) + 2 * (if decide (d = 0) then 1 else 0)))], by intro e; injection e with e; by_cases h : d = 0 <;> simp [h] at e <;> omega, by have := fin (some ((if 0 > d - 1 then 0 else d - 1) + 2 * (if decide (d = 0) then 1 else 0))); have mm2 := m2 (decide (d = 0)); simp only [oD] at this; simp [-List.append_assoc, -max_two, -decide_eq_true_eq, n0, n1, n2, hw, hY, i1, i0, hX, nX, c1, c2, o3, o4, o5, o6, o7, slice_take, sd, hW, oD, this, mx, mm2]⟩
end K
end

section
set_option maxRecDepth 100000
set_option linter.all false
namespace K
open Ev
@[simp] theorem po_int (i : Int) (d : D) : partOf (.int i) d = d.int?.map some := id rfl
@[simp] theorem c_isnbb (a b : Bool) : Cmp.run .isn (.bl a) (.bl b) = some (!decide (a = b)) := id rfl
@[simp] theorem c_isbb (a b : Bool) : Cmp.run .is (.bl a) (.bl b) = some (decide (a = b)) := id rfl
/-! ### _law_meets_asked -/
def mb0 : S := (.ite (.or (.cmp .isn (.call 8 (.cons (.lend 1) (.cons (.lend 2) .nil))) (.bl true)) (.cmp .isn (.call 8 (.cons (.lend 1) (.cons (.call 20 (.cons (.lend 0) (.cons (.lend 2) (.cons (.lend 3) .nil)))) .nil))) (.bl false))) (.cons (.ret (.bl false)) .nil) .nil)
def mb1 : S := (.set (.nm 4) (.blt .tuple (.cons (.comp (.tup (.cons (.idx (.var 9) (.int 0)) (.cons .non .nil))) (.nm 9) (.froz 2) (.bl true) false [9]) .nil)))
def mb2 : S := (.ite (.or (.cmp .isn (.call 8 (.cons (.tup .nil) (.cons (.lend 4) .nil))) (.bl true)) (.cmp .isn (.call 8 (.cons (.tup .nil) (.cons (.bin .add (.slc (.var 4) (.int 1) .part) (.tup (.cons (.tup (.cons (.idx (.idx (.var 2) (.int 0)) (.int 0)) (.cons (.int 3) .nil))) .nil))) .nil))) (.bl false))) (.cons (.ret (.bl false)) .nil) .nil)
def mb3 : S := (.set (.nm 5) (.cmp .eq (.blt .len (.cons (.comp (.var 9) (.nm 9) (.froz 2) (.cmp .isn (.idx (.var 9) (.int 1)) .non) true [9]) .nil)) (.int 0)))
def mb4 : S := (.ite (.not (.call 13 (.cons (.call 8 (.cons (.lend 1) (.cons (.lend 4) .nil))) (.cons (.lend 5) .nil)))) (.cons (.ret (.bl false)) .nil) .nil)
def mb5 : S := (.set (.nm 6) (.call 11 (.cons (.lend 0) (.cons (.blt .len (.cons (.var 1) .nil)) .nil))))
def mb6 : S := (.set (.nm 7) (.bin .add (.slc (.var 1) .part (.var 6)) (.slc (.var 1) (.bin .add (.var 6) (.int 1)) .part)))
def mb7 : S := (.set (.nm 8) (.bl true))
def mb8 : S := (.loop (.nm 9) (.froz 2) (.cons (.ite (.cmp .ne (.call 15 (.cons (.lend 7) (.cons (.idx (.var 9) (.int 0)) .nil))) (.idx (.var 9) (.int 1))) (.cons (.set (.nm 8) (.bl false)) .nil) .nil) .nil))
def mb9 : S := (.ite (.or (.not (.call 13 (.cons (.call 8 (.cons (.lend 7) (.cons (.lend 2) .nil))) (.cons (.lend 8) .nil)))) (.cmp .isn (.callk 8 0 [1, 0] (.cons (.tup .nil) (.cons (.lend 1) .nil))) (.bl true))) (.cons (.ret (.bl false)) .nil) .nil)
def mb10 : S := (.ret (.cmp .is (.call 8 (.cons (.lend 1) (.cons (.bin .add (.var 2) (.call 20 (.cons (.lend 0) (.cons (.lend 2) (.cons (.lend 3) .nil))))) .nil))) (.bl false)))
theorem mb_eq : c__law_meets_asked = (.cons mb0 (.cons mb1 (.cons mb2 (.cons mb3 (.cons mb4 (.cons mb5 (.cons mb6 (.cons mb7 (.cons mb8 (.cons mb9 (.cons mb10 .nil))))))))))) := rfl
theorem mb_a (gl : Nat → Option D) (call : Nat → List D → R D) (great : Int) (ok : Nat → Bool) (o : ∀ i, 4 ≤ i → ok i = true) (J0 J1 C W W1 : D) (n0 : J0.isNo = false) (iC : C.imm = true) (iW : W.imm = true) (i1 : W1.imm = true) (c1 : call 8 [C, W] = .ok (.bl true) [C, W]) (c2 : call 20 [J0, W, .int great] = .ok W1 [J1, W, .int great]) (c3 : call 8 [C, W1] = .ok (.bl false) [C, W1]) :
    evS gl call fuel mb0 ok [J0, C, W, .int great, .no, .no, .no, .no, .no, .no] = .nx [J1, C, W, .int great, .no, .no, .no, .no, .no, .no] := by
  have nC := imm_no iC
  have nW := imm_no iW
  unfold mb0
  simp [n0, nC, nW, c1, c2, c3]
theorem mb_b (gl : Nat → Option D) (call : Nat → List D → R D) (great : Int) (ok : Nat → Bool) (o : ∀ i, 4 ≤ i → ok i = true) (J C : D) (ws : List Wish) : evS gl call fuel mb1 ok [J, C, .tup (ws.map wD), .int great, .no, .no, .no, .no, .no, .no] = .nx [J, C, .tup (ws.map wD), .int great, .tup (ws.map fun w => wD (w.1, none)), .no, .no, .no, .no, .no] := by
  have o4 := o 4 (by decide)
  have him := immL_wD ws
  have ec : evM gl call (.comp (.tup (.cons (.idx (.var 9) (.int 0)) (.cons .non .nil))) (.nm 9) (.froz 2) (.bl true) false [9]) .v [J, C, .tup (ws.map wD), .int great, .no, .no, .no, .no, .no, .no] = .ok (.lst (ws.map fun w => wD (w.1, none))) [J, C, .tup (ws.map wD), .int great, .no, .no, .no, .no, .no, .no] := by
    refine (comp_map (fz := none) (ρ1 := [J, C, .tup (ws.map wD), .int great, .no, .no, .no, .no, .no, .no]) wD (fun w => some (wD (w.1, none))) ws ?_ (fun w mw => ?_) rfl).trans ?_
    · simp [items, D.still, him]
    · have i0 : D.item (wD w) (.int 0) = some (tO w.1) := rfl
      have ii := wD_imm w
      have it : (tO w.1).imm = true := immL_oD w.1
      have nw : (wD w).isNo = false := rfl
      have e : wD (w.1, none) = .tup [tO w.1, .non] := rfl
      rw [e]
      generalize ws.map wD = WW at *
      generalize wD w = Y at *
      generalize tO w.1 = T at *
      simp [cturn, Ev.wipe, i0, ii, it, nw]
    · rw [List.filterMap_eq_map']; rfl
  have hN : D.immL (ws.map fun w => wD (w.1, none)) = true := immL_of fun x m => by obtain ⟨w, _, rfl⟩ := List.mem_map.mp m; exact wD_imm _
  unfold mb1
  rw [u_set, x_blt, x_bsc, b_comp, ec]
  generalize (ws.map fun w => wD (w.1, none)) = N at *
  simp [o4, hN]
theorem mb_c (gl : Nat → Option D) (call : Nat → List D → R D) (great : Int) (ok : Nat → Bool) (o : ∀ i, 4 ≤ i → ok i = true) (J C X Y : D) (W N : List D) (hW : D.immL W = true) (hN : D.immL N = true) (hl : N.length ≤ 1000) (hw : W[0]? = some Y) (iY : Y.imm = true) (i0 : D.item Y (.int 0) = some X) (iX : X.imm = true)
    (c1 : call 8 [.tup [], .tup N] = .ok (.bl true) [.tup [], .tup N]) (c2 : call 8 [.tup [], .tup (N.drop 1 ++ [.tup [X, .int 3]])] = .ok (.bl false) [.tup [], .tup (N.drop 1 ++ [.tup [X, .int 3]])]) :
    evS gl call fuel mb2 ok [J, C, .tup W, .int great, .tup N, .no, .no, .no, .no, .no] = .nx [J, C, .tup W, .int great, .tup N, .no, .no, .no, .no, .no] := by
  have sd : D.slice (.tup N) (some 1) none = some (.tup (N.drop 1)) := by have := slice_drop N 1; rw [if_pos hN] at this; exact this
  have ad : Op2.run .add (.tup (N.drop 1)) (.tup [.tup [X, .int 3]]) = some (.tup (N.drop 1 ++ [.tup [X, .int 3]])) := by
    rw [o_addT, if_pos ⟨small (by simp; omega), immL_drop hN 1, by simp [iX]⟩]
  have iD := immL_drop hN 1
  generalize N.drop 1 = N1 at *
  have hi : D.immL (N1 ++ [.tup [X, .int 3]]) = true := by simp [iD, iX]
  generalize N1 ++ [.tup [X, .int 3]] = N2 at *
  unfold mb2
  simp [hW, hN, hw, iY, i0, iX, c1, c2, sd, ad, hi, iD]
theorem mb_d (gl : Nat → Option D) (call : Nat → List D → R D) (great : Int) (ok : Nat → Bool) (o : ∀ i, 4 ≤ i → ok i = true) (J C N : D) (ws : List Wish) : evS gl call fuel mb3 ok [J, C, .tup (ws.map wD), .int great, N, .no, .no, .no, .no, .no] = .nx [J, C, .tup (ws.map wD), .int great, N, .bl (ws.all fun w => decide (w.2 = none)), .no, .no, .no, .no] := by
  have o5 := o 5 (by decide)
  have him := immL_wD ws
  have ec : evM gl call (.comp (.var 9) (.nm 9) (.froz 2) (.cmp .isn (.idx (.var 9) (.int 1)) .non) true [9]) .v [J, C, .tup (ws.map wD), .int great, N, .no, .no, .no, .no, .no] = .ok (.lst (ws.filterMap fun w => if w.2 = none then none else some (wD w))) [J, C, .tup (ws.map wD), .int great, N, .no, .no, .no, .no, .no] := by
    refine comp_map (fz := none) (ρ1 := [J, C, .tup (ws.map wD), .int great, N, .no, .no, .no, .no, .no]) wD (fun w => if w.2 = none then none else some (wD w)) ws ?_ (fun w mw => ?_) rfl
    · simp [items, D.still, him]
    · have i1 : D.item (wD w) (.int 1) = some (oD w.2) := rfl
      have ii := wD_imm w
      have nw : (wD w).isNo = false := rfl
      generalize ws.map wD = WW at *
      generalize wD w = Y at *
      cases hd : w.2 <;> rw [hd] at i1 <;> simp only [oD] at i1 <;> simp [cturn, Ev.wipe, i1, ii, nw]
  have hlen := len0_all (fun w : Wish => if w.2 = none then none else some (wD w)) (fun w => decide (w.2 = none)) (fun a => by by_cases h : a.2 = none <;> simp [h]) ws
  rw [← hlen]
  unfold mb3
  generalize (ws.filterMap fun w => if w.2 = none then none else some (wD w)) = L at *
  generalize ws.map wD = WW at *
  simp [ec, o5]
theorem mb_e (gl : Nat → Option D) (call : Nat → List D → R D) (great : Int) (ok : Nat → Bool) (o : ∀ i, 4 ≤ i → ok i = true) (J0 J1 W N : D) (C : List D) (hC : D.immL C = true) (hl : C.length ≤ 1000) (n0 : J0.isNo = false) (iN : N.imm = true) (b : Bool) (k : Nat) (c1 : call 8 [.tup C, N] = .ok (.bl b) [.tup C, N]) (c2 : call 13 [.bl b, .bl b] = .ok (.bl true) [.bl b, .bl b])
    (c3 : call 11 [J0, .int (C.length : Int)] = .ok (.int (k : Int)) [J1, .int (C.length : Int)]) (rest : Ss) :
    evSs gl call fuel (.cons mb4 (.cons mb5 (.cons mb6 (.cons mb7 rest)))) ok [J0, .tup C, W, .int great, N, .bl b, .no, .no, .no, .no] = evSs gl call fuel rest ok [J1, .tup C, W, .int great, N, .bl b, .int (k : Int), .tup (C.take k ++ C.drop (k + 1)), .bl true, .no] := by
  have o6 := o 6 (by decide)
  have o7 := o 7 (by decide)
  have o8 := o 8 (by decide)
  have nN := imm_no iN
  have st : D.slice (.tup C) none (some (k : Int)) = some (.tup (C.take k)) := by have := slice_take C k; rw [if_pos hC] at this; exact this
  have sd : D.slice (.tup C) (some ((k : Int) + 1)) none = some (.tup (C.drop (k + 1))) := by have := slice_drop C (k + 1); rw [if_pos hC] at this; exact this
  have ad : Op2.run .add (.tup (C.take k)) (.tup (C.drop (k + 1))) = some (.tup (C.take k ++ C.drop (k + 1))) := by
    rw [o_addT, if_pos ⟨small (by simp; omega), immL_take hC k, immL_drop hC (k + 1)⟩]
  unfold mb4 mb5 mb6 mb7
  simp [n0, hC, nN, c1, c2, c3, st, sd, ad, o6, o7, o8]
theorem mb_f (gl : Nat → Option D) (call : Nat → List D → R D) (great : Int) (ok : Nat → Bool) (o : ∀ i, 4 ≤ i → ok i = true) (J C N B K6 L : D) (nL : L.isNo = false) (ws : List Wish) (best : List (Option Int) → Option Int) (c15 : ∀ w ∈ ws, call 15 [L, tO w.1] = .ok (oD (best w.1)) [L, tO w.1]) :
    ∃ x, evS gl call fuel mb8 ok [J, C, .tup (ws.map wD), .int great, N, B, K6, L, .bl true, .no] = .nx [J, C, .tup (ws.map wD), .int great, N, B, K6, L, .bl (ws.all fun w => decide (best w.1 = w.2)), x] := by
  have o8 := o 8 (by decide)
  have o9 := o 9 (by decide)
  have him := immL_wD ws
  obtain ⟨j, hj, _⟩ := forL_fj (turn := fun dd ρ' => optO (stT ok (.nm 9) dd ρ') fun ρ2 => evSs gl call fuel (.cons (.ite (.cmp .ne (.call 15 (.cons (.lend 7) (.cons (.idx (.var 9) (.int 0)) .nil))) (.idx (.var 9) (.int 1))) (.cons (.set (.nm 8) (.bl false)) .nil) .nil) .nil) ok ρ2)
    (fun (b : Bool) (x : D) => [J, C, .tup (ws.map wD), .int great, N, B, K6, L, .bl b, x]) (fun (w : Wish) b => b && decide (best w.1 = w.2)) (fun _ _ => True) (fun _ => wD) ws 0 true .no trivial (fun k w b x hk _ => by
      have mw := List.mem_of_getElem? hk
      have c := c15 w mw
      have i0 : D.item (wD w) (.int 0) = some (tO w.1) := rfl
      have i1 : D.item (wD w) (.int 1) = some (oD w.2) := rfl
      have ii := wD_imm w
      have nw : (wD w).isNo = false := rfl
      have it : (tO w.1).imm = true := immL_oD w.1
      have hne := oD_ne (best w.1) w.2
      refine ⟨⟨wD w, .inl ?_⟩, trivial⟩
      generalize ws.map wD = WW at *
      generalize wD w = Y at *
      generalize tO w.1 = T at *
      by_cases h : best w.1 = w.2
      · rw [decide_eq_true h] at hne
        simp only [Bool.not_true] at hne
        have hf : (b && decide (best w.1 = w.2)) = b := by simp [h]
        rw [hf]
        generalize oD (best w.1) = U at *
        generalize oD w.2 = V at *
        by_cases q : ∀ q : Bool, needs U (.call 15 (.cons (.lend 7) (.cons (.idx (.var 9) (.int 0)) .nil))) q = true
        · simp [o8, o9, nL, nw, ii, i0, i1, it, c, hne]
        · exact absurd (fun q => needs_call) q
      · rw [decide_eq_false h] at hne
        simp only [Bool.not_false] at hne
        have hf : (b && decide (best w.1 = w.2)) = false := by simp [h]
        rw [hf]
        generalize oD (best w.1) = U at *
        generalize oD w.2 = V at *
        simp [o8, o9, nL, nw, ii, i0, i1, it, c, hne])
  rw [encL_map] at hj
  have hf : ws.foldl (fun s w => s && decide (best w.1 = w.2)) true = ws.all fun w => decide (best w.1 = w.2) := by
    have : ∀ (l : List Wish) (b : Bool), l.foldl (fun s w => s && decide (best w.1 = w.2)) b = (b && l.all fun w => decide (best w.1 = w.2)) := by
      intro l
      induction l with
      | nil => intro b; simp
      | cons a l ih => intro b; rw [List.foldl_cons, ih, List.all_cons, Bool.and_assoc]
    rw [this]; rfl
  rw [hf] at hj
  refine ⟨j, ?_⟩
  have hI : evI gl call (.froz 2) [J, C, .tup (ws.map wD), .int great, N, B, K6, L, .bl true, .no] = .ok (ws.map wD, none) [J, C, .tup (ws.map wD), .int great, N, B, K6, L, .bl true, .no] := by simp [items, D.still, him]
  unfold mb8
  rw [u_loop, hI]
  simp only [e_o_ok, okBut_none]
  rw [hj, thaw_nx]
theorem mb_g (gl : Nat → Option D) (call : Nat → List D → R D) (great : Int) (ok : Nat → Bool) (o : ∀ i, 4 ≤ i → ok i = true) (J0 J1 C N B K6 L x : D) (iC : C.imm = true) (iL : L.imm = true) (n0 : J0.isNo = false) (b : Bool) (W W1 : List D) (hW : D.immL W = true) (h1 : D.immL W1 = true) (hl : W.length + W1.length ≤ 1000)
    (c1 : call 8 [L, .tup W] = .ok (.bl b) [L, .tup W]) (c2 : call 13 [.bl b, .bl b] = .ok (.bl true) [.bl b, .bl b]) (c3 : call 8 [C, .tup []] = .ok (.bl true) [C, .tup []])
    (c4 : call 20 [J0, .tup W, .int great] = .ok (.tup W1) [J1, .tup W, .int great]) (c5 : call 8 [C, .tup (W ++ W1)] = .ok (.bl false) [C, .tup (W ++ W1)]) :
    evSs gl call fuel (.cons mb9 (.cons mb10 .nil)) ok [J0, C, .tup W, .int great, N, B, K6, L, .bl b, x] = .rt (.bl true) [J1, C, .tup W, .int great, N, B, K6, L, .bl b, x] := by
  have nC := imm_no iC
  have nL := imm_no iL
  have ad : Op2.run .add (.tup W) (.tup W1) = some (.tup (W ++ W1)) := by rw [o_addT, if_pos ⟨small (by omega), hW, h1⟩]
  have hi : D.immL (W ++ W1) = true := by simp [hW, h1]
  generalize W ++ W1 = W2 at *
  have hn : ∀ q, needs (D.tup W) (E.var 2) q = true := fun q => needs_i hW
  unfold mb9 mb10
  simp [n0, nC, nL, hW, hi, c1, c2, c3, c4, c5, ad, hn]
end K
end

section
set_option maxRecDepth 100000
set_option linter.all false
namespace K
open Ev
theorem tabD {xs : List D} {v : Int} (h0 : 0 ≤ v) (h1 : v < xs.length) : ∃ x ∈ xs, D.item (.lst xs) (.int v) = some x := by
  obtain ⟨k, rfl⟩ := Int.eq_ofNat_of_zero_le h0
  have hk : k < xs.length := by omega
  exact ⟨xs[k], List.getElem_mem hk, by rw [item_natL, List.getElem?_eq_getElem hk]⟩
def p59 : Int := (10 : Int) ^ (59 : Int).toNat
theorem o_p59 : Op2.run .pow (.int 10) (.int 59) = some (.int p59) := by
  show (if 0 ≤ (59 : Int) ∧ (59 : Int) ≤ 1000000 ∧ (10 : Int).natAbs < 2 ^ 64 then some (D.int ((10 : Int) ^ (59 : Int).toNat)) else none) = _
  rw [if_pos (by decide)]; rfl
theorem p59_pos : 0 < p59 := by unfold p59; exact Int.pow_pos (by decide)
theorem o_mulS {s : PySem.Str} {k : Nat} (h1 : 1 ≤ k) (h2 : k ≤ 1000) (h3 : s.length ≤ 1000) : Op2.run .mul (.str s) (.int (k : Int)) = some (.str (strRep s k)) := by
  show (if 1 ≤ (k : Int) ∧ (k : Int) ≤ 1000 ∧ s.length ≤ 1000 then some (D.str (strRep s (k : Int).toNat)) else none) = _
  rw [if_pos ⟨by omega, by omega, h3⟩, Int.toNat_natCast]
@[simp] theorem list_tup (xs : List D) : Blt.run .list [.tup xs] = if D.immL xs then some (.lst xs) else none := id rfl
/-! ### what is no wish -/
theorem rowD_oD (f : Option Int) (m : Int) : rowD (oD f) m = false := by cases f <;> rfl
theorem wish_row (m : Int) (ts : List (Option Int)) : wishD m (.tup (ts.map oD)) = false := by
  match ts with
  | [] => rfl
  | [_] => rfl
  | [a, b] => show (timesD m (oD a) && _) = false; unfold timesD; rw [rowD_oD]; rfl
  | _ :: _ :: _ :: _ => rfl
theorem timeD_oD {f : Option Int} (h : ∀ t, f = some t → 0 ≤ t) : timeD (oD f) = true := by
  cases f with
  | none => rfl
  | some t => exact decide_eq_true (h t rfl)
/-! ### _law_bent_pair -/
def bp0 : S := (.set (.nm 2) (.idx (.var 1) (.int 0)))
def bp1 : S := (.set (.nm 3) (.idx (.var 1) (.int 1)))
def bp2 : S := (.set (.nm 4) (.call 11 (.cons (.lend 0) (.cons (.blt .len (.cons (.var 2) .nil)) .nil))))
def bp3 : S := (.set (.nm 5) (.idx (.lst (.cons (.neg (.int 1)) (.cons (.bl true) (.cons (.bl false) (.cons (.str (PySem.Str.ofString "0")) (.cons (.tup (.cons (.int 0) .nil)) (.cons (.frz (.lst (.cons (.int 1) .nil))) (.cons (.str (PySem.Str.ofString "never")) (.cons (.tup .nil) (.cons (.neg (.bin .pow (.int 10) (.int 59))) (.cons (.str (PySem.Str.ofString "")) (.cons (.frz (.lst .nil)) (.cons (.tup (.cons .non .nil)) .nil))))))))))))) (.call 11 (.cons (.lend 0) (.cons (.int 12) .nil)))))
def bp4 : S := (.set (.nm 6) (.call 11 (.cons (.lend 0) (.cons (.int 13) .nil))))
def bp5 : S := (.ite (.cmp .lt (.var 6) (.int 4)) (.cons (.ret (.tup (.cons (.bin .add (.bin .add (.slc (.var 2) .part (.var 4)) (.tup (.cons (.mov 5) .nil))) (.slc (.var 2) (.bin .add (.var 4) (.int 1)) .part)) (.cons (.mov 3) .nil)))) .nil) .nil)
def bp6 : S := (.ite (.cmp .lt (.var 6) (.int 7)) (.cons (.ret (.tup (.cons (.mov 2) (.cons (.mov 5) .nil)))) .nil) .nil)
def bp7 : S := (.ite (.cmp .eq (.var 6) (.int 7)) (.cons (.ret (.tup (.cons (.frz (.blt .list (.cons (.var 2) .nil))) (.cons (.mov 3) .nil)))) .nil) .nil)
def bp8 : S := (.ite (.cmp .eq (.var 6) (.int 8)) (.cons (.ret (.frz (.lst (.cons (.mov 2) (.cons (.mov 3) .nil))))) .nil) .nil)
def bp9 : S := (.ite (.cmp .eq (.var 6) (.int 9)) (.cons (.ret (.tup (.cons (.mov 2) (.cons (.mov 3) (.cons (.mov 3) .nil))))) .nil) .nil)
def bp10 : S := (.ite (.cmp .eq (.var 6) (.int 10)) (.cons (.ret (.tup (.cons (.bin .add (.slc (.var 2) .part (.var 4)) (.slc (.var 2) (.bin .add (.var 4) (.int 1)) .part)) (.cons (.mov 3) .nil)))) .nil) .nil)
def bp11 : S := (.ite (.cmp .eq (.var 6) (.int 11)) (.cons (.ret (.tup (.cons (.bin .add (.var 2) (.tup (.cons (.idx (.var 2) (.var 4)) .nil))) (.cons (.mov 3) .nil)))) .nil) .nil)
def bp12 : S := (.ret (.idx (.lst (.cons .non (.cons (.tup (.cons (.mov 2) .nil)) (.cons (.tup .nil) (.cons (.str (PySem.Str.ofString "00")) (.cons (.tup (.cons (.bin .mul (.str (PySem.Str.ofString "0")) (.blt .len (.cons (.var 2) .nil))) (.cons (.mov 3) .nil))) (.cons (.tup (.cons (.mov 3) (.cons (.mov 2) .nil))) (.cons (.mov 2) (.cons (.int 0) (.cons (.tup (.cons .non (.cons (.mov 3) .nil))) .nil)))))))))) (.call 11 (.cons (.lend 0) (.cons (.int 9) .nil)))))
theorem bp_eq : c__law_bent_pair = (.cons bp0 (.cons bp1 (.cons bp2 (.cons bp3 (.cons bp4 (.cons bp5 (.cons bp6 (.cons bp7 (.cons bp8 (.cons bp9 (.cons bp10 (.cons bp11 (.cons bp12 .nil))))))))))))) := rfl
def odds : List D := [.int (-1), .bl true, .bl false, .str (PySem.Str.ofString "0"), .tup [.int 0], .rol true [.int 1], .str (PySem.Str.ofString "never"), .tup [], .int (-p59), .str (PySem.Str.ofString ""), .rol true [], .tup [.non]]
theorem odds_ok : ∀ x ∈ odds, x.imm = true ∧ timeD x = false := by
  intro x m
  have := p59_pos
  simp [odds] at m
  rcases m with rfl | rfl | rfl | rfl | rfl | rfl | rfl | rfl | rfl | rfl | rfl | rfl <;> first | exact ⟨rfl, rfl⟩ | (refine ⟨rfl, ?_⟩; show decide _ = false; rw [decide_eq_false_iff_not]; omega)
theorem bp_a (gl : Nat → Option D) (call : Nat → List D → R D) (ok : Nat → Bool) (o : ∀ i, 2 ≤ i → ok i = true) (J0 J1 J2 J3 Y Dd od : D) (X : List D) (n0 : J0.isNo = false) (n1 : J1.isNo = false) (n2 : J2.isNo = false) (hX : D.immL X = true) (iD : Dd.imm = true) (iY : Y.imm = true) (i0 : D.item Y (.int 0) = some (.tup X)) (i1 : D.item Y (.int 1) = some Dd)
    (k v w : Int) (c1 : call 11 [J0, .int (X.length : Int)] = .ok (.int k) [J1, .int (X.length : Int)]) (c2 : call 11 [J1, .int 12] = .ok (.int v) [J2, .int 12]) (hod : D.item (.lst odds) (.int v) = some od) (io : od.imm = true) (c3 : call 11 [J2, .int 13] = .ok (.int w) [J3, .int 13]) (rest : Ss) :
    evSs gl call fuel (.cons bp0 (.cons bp1 (.cons bp2 (.cons bp3 (.cons bp4 rest))))) ok [J0, Y, .no, .no, .no, .no, .no] = evSs gl call fuel rest ok [J3, Y, .tup X, Dd, .int k, od, .int w] := by
  have o2 := o 2 (by decide)
  have o3 := o 3 (by decide)
  have o4 := o 4 (by decide)
  have o5 := o 5 (by decide)
  have o6 := o 6 (by decide)
  have nY := imm_no iY
  have pw := o_p59
  have f12 : fits 12 = true := fits_of (by omega)
  unfold odds at hod
  unfold bp0 bp1 bp2 bp3 bp4
  simp [n0, n1, n2, hX, iD, iY, nY, i0, i1, c1, c2, c3, hod, io, o2, o3, o4, o5, o6, pw, f12]
theorem bp_b (gl : Nat → Option D) (call : Nat → List D → R D) (ok : Nat → Bool) (J0 Y od : D) (f : Option Int) (ts : List (Option Int)) (hl : 1 ≤ ts.length) (h9 : ts.length ≤ 100) (n0 : J0.isNo = false) (io : od.imm = true) (to : timeD od = false) (k wy : Nat) (hk : k < ts.length) (hwy : wy < 13)
    (H9 : ∃ (v : Int) (J1 : D), 0 ≤ v ∧ v < 9 ∧ call 11 [J0, .int 9] = .ok (.int v) [J1, .int 9]) (Q : D → Prop) (q0 : Q J0) (q1 : ∀ (v : Int) (J1 : D), call 11 [J0, .int 9] = .ok (.int v) [J1, .int 9] → Q J1) :
    ∃ (B J1 : D) (r : Env), B.imm = true ∧ wishD (ts.length : Int) B = false ∧ Q J1 ∧ evSs gl call fuel (.cons bp5 (.cons bp6 (.cons bp7 (.cons bp8 (.cons bp9 (.cons bp10 (.cons bp11 (.cons bp12 .nil)))))))) ok [J0, Y, .tup (ts.map oD), oD f, .int (k : Int), od, .int (wy : Int)] = .rt B (J1 :: Y :: r) := by
  have hX : D.immL (ts.map oD) = true := immL_oD ts
  have xl : (ts.map oD).length = ts.length := List.length_map ..
  have iD := oD_imm f
  have nD := oD_no f
  have no := imm_no io
  have st : D.slice (.tup (ts.map oD)) none (some (k : Int)) = some (.tup ((ts.map oD).take k)) := by have := slice_take (ts.map oD) k; rw [if_pos hX] at this; exact this
  have sd : D.slice (.tup (ts.map oD)) (some ((k : Int) + 1)) none = some (.tup ((ts.map oD).drop (k + 1))) := by have := slice_drop (ts.map oD) (k + 1); rw [if_pos hX] at this; exact this
  obtain ⟨a1, a2⟩ := add3 hX (by omega) io k (k + 1)
  have t1 := immL_take hX k
  have t2 := immL_drop hX (k + 1)
  have ad : Op2.run .add (.tup ((ts.map oD).take k)) (.tup ((ts.map oD).drop (k + 1))) = some (.tup ((ts.map oD).take k ++ (ts.map oD).drop (k + 1))) := by
    rw [o_addT, if_pos ⟨small (by simp; omega), t1, t2⟩]
  have hit : (ts.map oD)[k]? = some (oD ts[k]) := by rw [List.getElem?_map, List.getElem?_eq_getElem hk]; rfl
  have a4 : Op2.run .add (.tup (ts.map oD)) (.tup [oD ts[k]]) = some (.tup (ts.map oD ++ [oD ts[k]])) := by rw [o_addT, if_pos ⟨small (by simp; omega), hX, by simp⟩]
  have wl : ((ts.map oD).take k ++ (ts.map oD).drop (k + 1)).length = ts.length - 1 := by rw [List.length_append, List.length_take, List.length_drop, xl]; omega
  have row1 : wishD (ts.length : Int) (.tup [.tup ((ts.map oD).take k ++ [od] ++ (ts.map oD).drop (k + 1)), oD f]) = false := by
    show (timesD _ _ && _) = false
    unfold timesD
    have : ((ts.map oD).take k ++ [od] ++ (ts.map oD).drop (k + 1)).all timeD = false := by simp [to]
    show (_ && ((ts.map oD).take k ++ [od] ++ (ts.map oD).drop (k + 1)).all timeD && _) = false
    rw [this]; simp
  have row2 : wishD (ts.length : Int) (.tup [.tup (ts.map oD), od]) = false := by show (_ && timeD od) = false; rw [to]; simp
  have row10 : wishD (ts.length : Int) (.tup [.tup ((ts.map oD).take k ++ (ts.map oD).drop (k + 1)), oD f]) = false := by
    show (timesD _ _ && _) = false
    unfold timesD
    have : rowD (.tup ((ts.map oD).take k ++ (ts.map oD).drop (k + 1))) (ts.length : Int) = false := by show decide _ = false; rw [wl, decide_eq_false_iff_not]; omega
    rw [this]; rfl
  have row11 : wishD (ts.length : Int) (.tup [.tup (ts.map oD ++ [oD ts[k]]), oD f]) = false := by
    show (timesD _ _ && _) = false
    unfold timesD
    have : rowD (.tup (ts.map oD ++ [oD ts[k]])) (ts.length : Int) = false := by show decide _ = false; rw [List.length_append, xl, decide_eq_false_iff_not]; simp; omega
    rw [this]; rfl
  have rowr : wishD (ts.length : Int) (.tup (ts.map oD)) = false := wish_row _ ts
  have rowd : wishD (ts.length : Int) (.tup [oD f, .tup (ts.map oD)]) = false := by show (timesD _ (oD f) && _) = false; unfold timesD; rw [rowD_oD]; rfl
  have ms : Op2.run .mul (.str (PySem.Str.ofString "0")) (.int (ts.length : Int)) = some (.str (strRep (PySem.Str.ofString "0") ts.length)) := o_mulS (by omega) (by omega) (by decide)
  have bi1 : D.immL ((ts.map oD).take k ++ [od] ++ (ts.map oD).drop (k + 1)) = true := by simp [t1, t2, io]
  have bi10 : D.immL ((ts.map oD).take k ++ (ts.map oD).drop (k + 1)) = true := by simp [t1, t2]
  have bi11 : D.immL (ts.map oD ++ [oD ts[k]]) = true := by simp [hX]
  have bi0 : D.immL ((ts.map oD).take k ++ [od]) = true := by simp [t1, io]
  clear wl to
  generalize (ts.map oD).take k ++ (ts.map oD).drop (k + 1) = X10 at *
  generalize (ts.map oD).take k ++ [od] ++ (ts.map oD).drop (k + 1) = X1 at *
  generalize ts.map oD ++ [oD ts[k]] = X11 at *
  generalize (ts.map oD).take k ++ [od] = X0 at *
  generalize (ts.map oD).take k = Xt at *
  generalize (ts.map oD).drop (k + 1) = Xd at *
  unfold bp5 bp6 bp7 bp8 bp9 bp10 bp11 bp12
  match wy, hwy with
  | 0, _ => exact ⟨.tup [.tup X1, oD f], J0, [.tup (ts.map oD), oD f, .int (k : Int), od, .int 0], by simp [bi1], row1, q0, by simp [n0, hX, iD, nD, io, no, st, sd, a1, a2, t1, t2, ad, hit, a4, bi1, bi10, bi11, bi0]⟩
  | 1, _ => exact ⟨.tup [.tup X1, oD f], J0, [.tup (ts.map oD), oD f, .int (k : Int), od, .int 1], by simp [bi1], row1, q0, by simp [n0, hX, iD, nD, io, no, st, sd, a1, a2, t1, t2, ad, hit, a4, bi1, bi10, bi11, bi0]⟩
  | 2, _ => exact ⟨.tup [.tup X1, oD f], J0, [.tup (ts.map oD), oD f, .int (k : Int), od, .int 2], by simp [bi1], row1, q0, by simp [n0, hX, iD, nD, io, no, st, sd, a1, a2, t1, t2, ad, hit, a4, bi1, bi10, bi11, bi0]⟩
  | 3, _ => exact ⟨.tup [.tup X1, oD f], J0, [.tup (ts.map oD), oD f, .int (k : Int), od, .int 3], by simp [bi1], row1, q0, by simp [n0, hX, iD, nD, io, no, st, sd, a1, a2, t1, t2, ad, hit, a4, bi1, bi10, bi11, bi0]⟩
  | 4, _ => exact ⟨.tup [.tup (ts.map oD), od], J0, [.tup (ts.map oD), oD f, .int (k : Int), od, .int 4], by simp [hX, io], row2, q0, by simp [n0, hX, iD, nD, io, no, st, sd, a1, a2, t1, t2, ad, hit, a4, bi1, bi10, bi11, bi0]⟩
  | 5, _ => exact ⟨.tup [.tup (ts.map oD), od], J0, [.tup (ts.map oD), oD f, .int (k : Int), od, .int 5], by simp [hX, io], row2, q0, by simp [n0, hX, iD, nD, io, no, st, sd, a1, a2, t1, t2, ad, hit, a4, bi1, bi10, bi11, bi0]⟩
  | 6, _ => exact ⟨.tup [.tup (ts.map oD), od], J0, [.tup (ts.map oD), oD f, .int (k : Int), od, .int 6], by simp [hX, io], row2, q0, by simp [n0, hX, iD, nD, io, no, st, sd, a1, a2, t1, t2, ad, hit, a4, bi1, bi10, bi11, bi0]⟩
  | 7, _ => exact ⟨.tup [.rol true (ts.map oD), oD f], J0, [.tup (ts.map oD), oD f, .int (k : Int), od, .int 7], by simp, rfl, q0, by simp [n0, hX, iD, nD, io, no, st, sd, a1, a2, t1, t2, ad, hit, a4, bi1, bi10, bi11, bi0]⟩
  | 8, _ => exact ⟨.rol true [.tup (ts.map oD), oD f], J0, [.tup (ts.map oD), oD f, .int (k : Int), od, .int 8], rfl, rfl, q0, by simp [n0, hX, iD, nD, io, no, st, sd, a1, a2, t1, t2, ad, hit, a4, bi1, bi10, bi11, bi0]⟩
  | 9, _ => exact ⟨.tup [.tup (ts.map oD), oD f, oD f], J0, [.tup (ts.map oD), oD f, .int (k : Int), od, .int 9], by simp [hX], rfl, q0, by simp [n0, hX, iD, nD, io, no, st, sd, a1, a2, t1, t2, ad, hit, a4, bi1, bi10, bi11, bi0]⟩
  | 10, _ => exact ⟨.tup [.tup X10, oD f], J0, [.tup (ts.map oD), oD f, .int (k : Int), od, .int 10], by simp [bi10], row10, q0, by simp [n0, hX, iD, nD, io, no, st, sd, a1, a2, t1, t2, ad, hit, a4, bi1, bi10, bi11, bi0]⟩
  | 11, _ => exact ⟨.tup [.tup X11, oD f], J0, [.tup (ts.map oD), oD f, .int (k : Int), od, .int 11], by simp [bi11], row11, q0, by simp [n0, hX, iD, nD, io, no, st, sd, a1, a2, t1, t2, ad, hit, a4, bi1, bi10, bi11, bi0]⟩
  | 12, _ =>
    obtain ⟨v, J1, v1, v2, v3⟩ := H9
    obtain ⟨x, mx, hx⟩ := tabD (xs := [.non, .tup [.tup (ts.map oD)], .tup [], .str (PySem.Str.ofString "00"), .tup [.str (strRep (PySem.Str.ofString "0") ts.length), oD f], .tup [oD f, .tup (ts.map oD)], .tup (ts.map oD), .int 0, .tup [.non, oD f]]) v1 (by simpa using v2)
    have f9 : fits 9 = true := fits_of (by omega)
    have hgood : x.imm = true ∧ wishD (ts.length : Int) x = false := by
      simp only [List.mem_cons, List.not_mem_nil, or_false] at mx
      rcases mx with rfl | rfl | rfl | rfl | rfl | rfl | rfl | rfl | rfl
      · exact ⟨rfl, rfl⟩
      · exact ⟨by simp [hX], rfl⟩
      · exact ⟨rfl, rfl⟩
      · exact ⟨rfl, rfl⟩
      · exact ⟨by simp, rfl⟩
      · exact ⟨by simp [hX], rowd⟩
      · exact ⟨hX, rowr⟩
      · exact ⟨rfl, rfl⟩
      · exact ⟨by simp, rfl⟩
    refine ⟨x, J1, [.tup (ts.map oD), oD f, .int (k : Int), od, .int 12], hgood.1, hgood.2, q1 v J1 v3, ?_⟩
    have ix := hgood.1
    simp [n0, hX, iD, nD, ms, v3, hx, f9, ix]
end K
end

section
set_option maxRecDepth 100000
set_option linter.all false
namespace K
open Ev
/-! ### _law_kinds_asked -/
def ka0 : S := (.ite (.or (.cmp .isn (.call 7 (.cons (.lend 1) (.cons (.lend 2) .nil))) (.bl true)) (.cmp .isn (.call 7 (.cons (.lend 1) (.cons (.tup .nil) .nil))) (.bl true))) (.cons (.ret (.bl false)) .nil) .nil)
def ka1 : S := (.ite (.cmp .isn (.call 7 (.cons (.lend 1) (.cons (.bin .add (.var 2) (.slc (.var 2) .part (.int 1))) .nil))) (.bl true)) (.cons (.ret (.bl false)) .nil) .nil)
def ka2 : S := (.ite (.cmp .isn (.callk 7 0 [1, 0] (.cons (.lend 2) (.cons (.bin .add (.bin .mod (.blt .int (.cons (.var 1) .nil)) (.int 6)) (.int 1)) .nil))) (.bl false)) (.cons (.ret (.bl false)) .nil) .nil)
def ka3 : S := (.loop (.nm 3) (.rng1 (.int 4)) (.cons (.set (.nm 4) (.call 11 (.cons (.lend 0) (.cons (.blt .len (.cons (.var 2) .nil)) .nil)))) (.cons (.set (.nm 6) (.call 22 (.cons (.lend 0) (.cons (.idx (.var 2) (.var 4)) .nil)))) (.cons (.ite (.cmp .isn (.call 7 (.cons (.lend 1) (.cons (.bin .add (.bin .add (.slc (.var 2) .part (.var 4)) (.tup (.cons (.mov 6) .nil))) (.slc (.var 2) (.bin .add (.var 4) (.int 1)) .part)) .nil))) (.bl false)) (.cons (.ret (.bl false)) .nil) .nil) .nil))))
def ka4 : S := (.set (.nm 4) (.call 11 (.cons (.lend 0) (.cons (.int 10) .nil))))
def ka5 : S := (.set (.nm 5) (.idx (.lst (.cons .non (.cons (.frz (.blt .list (.cons (.var 2) .nil))) (.cons (.frz (.lst .nil)) (.cons (.int 0) (.cons (.bl true) (.cons (.str (PySem.Str.ofString "")) (.cons (.idx (.var 2) (.int 0)) (.cons (.tup (.cons (.mov 2) .nil)) (.cons (.str (PySem.Str.ofString "()")) (.cons (.frz (.lst (.cons (.mov 2) .nil))) .nil))))))))))) (.var 4)))
def ka6 : S := (.ret (.cmp .is (.call 7 (.cons (.lend 1) (.cons (.lend 5) .nil))) (.bl false)))
theorem ka_eq : c__law_kinds_asked = (.cons ka0 (.cons ka1 (.cons ka2 (.cons ka3 (.cons ka4 (.cons ka5 (.cons ka6 .nil))))))) := rfl
theorem ka_a (gl : Nat → Option D) (call : Nat → List D → R D) (m : Int) (ok : Nat → Bool) (o : ∀ i, 3 ≤ i → ok i = true) (W : List D) (hW : D.immL W = true) (hl : W.length ≤ 400) (J : D) (c1 : call 7 [.int m, .tup W] = .ok (.bl true) [.int m, .tup W]) (c2 : call 7 [.int m, .tup []] = .ok (.bl true) [.int m, .tup []]) (c3 : call 7 [.int m, .tup (W ++ W.take 1)] = .ok (.bl true) [.int m, .tup (W ++ W.take 1)])
    (c4 : call 7 [.int (m.fmod 6 + 1), .tup W] = .ok (.bl false) [.int (m.fmod 6 + 1), .tup W]) (rest : Ss) :
    evSs gl call fuel (.cons ka0 (.cons ka1 (.cons ka2 rest))) ok [J, .int m, .tup W, .no, .no, .no, .no] = evSs gl call fuel rest ok [J, .int m, .tup W, .no, .no, .no, .no] := by
  have st : D.slice (.tup W) none (some 1) = some (.tup (W.take 1)) := by have := slice_take W 1; rw [if_pos hW] at this; exact this
  have ad : Op2.run .add (.tup W) (.tup (W.take 1)) = some (.tup (W ++ W.take 1)) := by
    rw [o_addT, if_pos ⟨small (by simp; omega), hW, immL_take hW 1⟩]
  have hi : D.immL (W ++ W.take 1) = true := by simp [hW, immL_take hW 1]
  have om : Op2.run .mod (.int m) (.int 6) = some (.int (m.fmod 6)) := o_mod (by decide)
  generalize W ++ W.take 1 = W2 at *
  generalize W.take 1 = W1 at *
  have hn : ∀ q, needs (D.tup W) (E.var 2) q = true := fun q => needs_i hW
  unfold ka0 ka1 ka2
  simp [hn, hW, hi, c1, c2, c3, c4, st, ad, om]
def bKA : Ss := (.cons (.set (.nm 4) (.call 11 (.cons (.lend 0) (.cons (.blt .len (.cons (.var 2) .nil)) .nil)))) (.cons (.set (.nm 6) (.call 22 (.cons (.lend 0) (.cons (.idx (.var 2) (.var 4)) .nil)))) (.cons (.ite (.cmp .isn (.call 7 (.cons (.lend 1) (.cons (.bin .add (.bin .add (.slc (.var 2) .part (.var 4)) (.tup (.cons (.mov 6) .nil))) (.slc (.var 2) (.bin .add (.var 4) (.int 1)) .part)) .nil))) (.bl false)) (.cons (.ret (.bl false)) .nil) .nil) .nil)))
theorem ka_turn (gl : Nat → Option D) (call : Nat → List D → R D) (m : Int) (ok : Nat → Bool) (o : ∀ i, 3 ≤ i → ok i = true) (W : List D) (hW : D.immL W = true) (hl : W.length ≤ 400) (J J1 J2 Y B q x y Z : D) (n0 : J.isNo = false) (n1 : J1.isNo = false) (k : Nat) (hw : W[k]? = some Y) (iY : Y.imm = true) (iB : B.imm = true) (c1 : call 11 [J, .int (W.length : Int)] = .ok (.int (k : Int)) [J1, .int (W.length : Int)]) (c2 : call 22 [J1, Y] = .ok B [J2, Y])
    (c3 : call 7 [.int m, .tup (W.take k ++ [B] ++ W.drop (k + 1))] = .ok (.bl false) [.int m, .tup (W.take k ++ [B] ++ W.drop (k + 1))]) :
    (optO (stT ok (.nm 3) q [J, .int m, .tup W, x, y, .no, Z]) fun ρ2 => evSs gl call fuel bKA ok ρ2) = .nx [J2, .int m, .tup W, q, .int (k : Int), .no, B] := by
  have o3 := o 3 (by decide)
  have o4 := o 4 (by decide)
  have o6 := o 6 (by decide)
  have nB := imm_no iB
  have st : D.slice (.tup W) none (some (k : Int)) = some (.tup (W.take k)) := by have := slice_take W k; rw [if_pos hW] at this; exact this
  have sd : D.slice (.tup W) (some ((k : Int) + 1)) none = some (.tup (W.drop (k + 1))) := by have := slice_drop W (k + 1); rw [if_pos hW] at this; exact this
  obtain ⟨a1, a2⟩ := add3 hW (by omega) iB k (k + 1)
  have t1 := immL_take hW k
  have t2 := immL_drop hW (k + 1)
  have hi : D.immL (W.take k ++ [B] ++ W.drop (k + 1)) = true := by simp [t1, t2, iB]
  generalize W.take k ++ [B] ++ W.drop (k + 1) = W2 at *
  generalize W.take k ++ [B] = W1 at *
  generalize W.take k = Wt at *
  generalize W.drop (k + 1) = Wd at *
  unfold bKA
  simp [o3, o4, o6, n0, n1, hW, hw, iY, iB, nB, c1, c2, c3, st, sd, a1, a2, hi]
theorem ka_loop (gl : Nat → Option D) (call : Nat → List D → R D) (m : Int) (ok : Nat → Bool) (o : ∀ i, 3 ≤ i → ok i = true) (W : List D) (hW : D.immL W = true) (hl : W.length ≤ 400) (h0 : 0 < W.length) (H : Dips call) (j : Jar) (hj : j.Ok) (HB : ∀ (j : Jar) (k : Nat) (Y : D), j.Ok → W[k]? = some Y → ∃ (B : D) (j' : Jar), Y.imm = true ∧ B.imm = true ∧ j'.Ok ∧ call 22 [j.d, Y] = .ok B [j'.d, Y] ∧ call 7 [.int m, .tup (W.take k ++ [B] ++ W.drop (k + 1))] = .ok (.bl false) [.int m, .tup (W.take k ++ [B] ++ W.drop (k + 1))]) :
    ∃ (j' : Jar) (x y z : D), j'.Ok ∧ evS gl call fuel ka3 ok [j.d, .int m, .tup W, .no, .no, .no, .no] = .nx [j'.d, .int m, .tup W, x, y, .no, z] := by
  obtain ⟨ρ', e1, j', x, y, z, rfl, p1⟩ := forL_inv (turn := fun dd ρ' => optO (stT ok (.nm 3) dd ρ') fun ρ2 => evSs gl call fuel bKA ok ρ2)
    (fun _ ρ => ∃ (j' : Jar) (x y z : D), ρ = [j'.d, .int m, .tup W, x, y, .no, z] ∧ j'.Ok) (rngL 0 (4 : Int)) [j.d, .int m, .tup W, .no, .no, .no, .no] 0 ⟨j, _, _, _, rfl, hj⟩ (fun i q ρ hi hp => by
      obtain ⟨j1, x, y, z, rfl, p1⟩ := hp
      obtain ⟨v, j2, a1, a2, a3, a4⟩ := H j1 (W.length : Int) p1 (by omega) (by omega)
      obtain ⟨k, rfl⟩ := Int.eq_ofNat_of_zero_le a1
      have hk : k < W.length := by omega
      obtain ⟨B, j3, iY, iB, b1, b2, b3⟩ := HB j2 k W[k] a3 (List.getElem?_eq_getElem hk)
      exact ⟨_, .inl (ka_turn gl call m ok o W hW hl j1.d j2.d j3.d W[k] B q x y z rfl rfl k (List.getElem?_eq_getElem hk) iY iB a4 b2 b3), j3, q, .int (k : Int), B, rfl, b1⟩)
  have hI : evI gl call (.rng1 (.int 4)) [j.d, .int m, .tup W, .no, .no, .no, .no] = .ok (rngL 0 (4 : Int), none) [j.d, .int m, .tup W, .no, .no, .no, .no] := by
    simp [rngOk_of (i := 4) (by omega) (by omega), fits_of (n := 4) (by omega)]
  refine ⟨j', x, y, z, p1, ?_⟩
  unfold ka3
  unfold bKA at e1
  rw [u_loop, hI]
  simp only [e_o_ok, okBut_none]
  rw [e1, thaw_nx]
def odds2 (W : List D) (Y : D) : List D := [.non, .rol true W, .rol true [], .int 0, .bl true, .str (PySem.Str.ofString ""), Y, .tup [.tup W], .str (PySem.Str.ofString "()"), .rol true [.tup W]]
theorem ka_end (gl : Nat → Option D) (call : Nat → List D → R D) (m : Int) (ok : Nat → Bool) (o : ∀ i, 3 ≤ i → ok i = true) (W : List D) (hW : D.immL W = true) (hl : W.length ≤ 400) (J J1 Y od x y z : D) (n0 : J.isNo = false) (v : Int) (hw : W[0]? = some Y) (iY : Y.imm = true) (c1 : call 11 [J, .int 10] = .ok (.int v) [J1, .int 10]) (hod : D.item (.lst (odds2 W Y)) (.int v) = some od) (io : od.imm = true) (c2 : call 7 [.int m, od] = .ok (.bl false) [.int m, od]) :
    evSs gl call fuel (.cons ka4 (.cons ka5 (.cons ka6 .nil))) ok [J, .int m, .tup W, x, y, .no, z] = .rt (.bl true) [J1, .int m, .tup W, x, .int v, od, z] := by
  have o4 := o 4 (by decide)
  have o5 := o 5 (by decide)
  have no := imm_no io
  have f10 : fits 10 = true := fits_of (by omega)
  unfold odds2 at hod
  unfold ka4 ka5 ka6
  simp [o4, o5, n0, hW, hw, iY, c1, hod, io, no, c2, f10]
/-! ### plain: which are wishes -/
def Row (mm : Nat) (w : Wish) : Prop := w.1.length = mm ∧ (∀ t, some t ∈ w.1 → 0 ≤ t) ∧ ∀ t, w.2 = some t → 0 ≤ t
theorem times_ok {ts : List (Option Int)} (h : ∀ t, some t ∈ ts → 0 ≤ t) (m : Int) : timesD m (tO ts) = decide ((ts.length : Int) = m) := by
  unfold timesD
  have : (ts.map oD).all timeD = true := by
    rw [List.all_eq_true]
    intro x mx
    obtain ⟨o, mo, rfl⟩ := List.mem_map.mp mx
    exact timeD_oD fun t e => h t (by rw [← e]; exact mo)
  show (decide (((ts.map oD).length : Int) = m) && (ts.map oD).all timeD) = _
  rw [this, List.length_map, Bool.and_true]
theorem wish_ok {mm : Nat} {w : Wish} (h : Row mm w) (m : Int) : wishD m (wD w) = decide ((mm : Int) = m) := by
  show (timesD m (tO w.1) && timeD (oD w.2)) = _
  rw [times_ok h.2.1, timeD_oD h.2.2, h.1, Bool.and_true]
theorem wishes_ok {mm : Nat} {ws : List Wish} (h : ∀ w ∈ ws, Row mm w) : wishesD (mm : Int) (.tup (ws.map wD)) = true := by
  show (ws.map wD).all (wishD _) = true
  rw [List.all_eq_true]
  intro x mx
  obtain ⟨w, mw, rfl⟩ := List.mem_map.mp mx
  rw [wish_ok (h w mw)]; simp
theorem wishes_no {m : Int} {ps : List D} {p : D} (mp : p ∈ ps) (h : wishD m p = false) : wishesD m (.tup ps) = false := by
  show ps.all (wishD m) = false
  rw [List.all_eq_false]
  exact ⟨p, mp, by rw [h]; simp⟩
theorem odds2_no {mm : Nat} {ws : List Wish} {w : Wish} (hw : ws[0]? = some w) (h : ∀ w ∈ ws, Row mm w) : ∀ x ∈ odds2 (ws.map wD) (wD w), x.imm = true ∧ wishesD (mm : Int) x = false := by
  intro x mx
  have hW := immL_wD ws
  unfold odds2 at mx
  simp only [List.mem_cons, List.not_mem_nil, or_false] at mx
  rcases mx with rfl | rfl | rfl | rfl | rfl | rfl | rfl | rfl | rfl | rfl
  · exact ⟨rfl, rfl⟩
  · exact ⟨rfl, rfl⟩
  · exact ⟨rfl, rfl⟩
  · exact ⟨rfl, rfl⟩
  · exact ⟨rfl, rfl⟩
  · exact ⟨rfl, rfl⟩
  · exact ⟨wD_imm w, wishes_no (p := tO w.1) List.mem_cons_self (wish_row _ _)⟩
  · refine ⟨by simp [hW], wishes_no (p := .tup (ws.map wD)) List.mem_cons_self ?_⟩
    match ws, hw with
    | [_], _ => rfl
    | [a, b], _ =>
      show (timesD _ (wD a) && _) = false
      have : timesD (mm : Int) (wD a) = false := by
        unfold timesD
        show (_ && (timeD (tO a.1) && _)) = false
        have : timeD (tO a.1) = false := rfl
        rw [this]; simp
      rw [this]; rfl
    | _ :: _ :: _ :: _, _ => rfl
  · exact ⟨rfl, rfl⟩
  · exact ⟨rfl, rfl⟩
end K
end

section
set_option maxRecDepth 100000
set_option linter.all false
namespace K
open Ev
/-! ### the runs -/
theorem r_whole (n : Nat) (x : D) (hx : x.imm = true) : run pg fuel (n + 1) 0 [x] = .ok (.bl (wholeD x)) [x] := by
  rw [run_eq (df := d_is_whole) rfl rfl (by decide)]
  show (evSs _ _ fuel c_is_whole (okP [x]) [x]).fin [x] = _
  rw [b_whole _ _ x hx]; exact fin1 hx []
theorem r_number (n : Nat) (x : D) (hx : x.imm = true) : run pg fuel (n + 2) 1 [x] = .ok (.bl (numD x)) [x] := by
  rw [show n + 2 = (n + 1) + 1 from rfl, run_eq (df := d_is_number) rfl rfl (by decide)]
  show (evSs _ (run pg fuel (n + 1)) fuel c_is_number (okP [x]) [x]).fin [x] = _
  rw [b_number _ _ x hx (r_whole n x hx)]; exact fin1 hx []
theorem r_row (n : Nat) (x : D) (hx : x.imm = true) (m : Int) : run pg fuel (n + 1) 2 [x, .int m] = .ok (.bl (rowD x m)) [x, .int m] := by
  rw [run_eq (df := d_is_row) rfl rfl (by decide)]
  show (evSs _ _ fuel c_is_row (okP [x, .int m]) [x, .int m]).fin [x, .int m] = _
  rw [b_row _ _ x hx]; exact fin2 []
theorem r_time (n : Nat) (x : D) (hx : x.imm = true) : run pg fuel (n + 3) 5 [x] = .ok (.bl (timeD x)) [x] := by
  rw [show n + 3 = (n + 2) + 1 from rfl, run_eq (df := d_is_time) rfl rfl (by decide)]
  show (evSs _ (run pg fuel (n + 2)) fuel c_is_time (okP [x]) [x]).fin [x] = _
  rw [b_time _ _ x hx (r_number n x hx)]; exact fin1 hx []
theorem r_are_times (n : Nat) (x : D) (hx : x.imm = true) (m : Int) : run pg fuel (n + 4) 6 [.int m, x] = .ok (.bl (timesD m x)) [.int m, x] := by
  rw [show n + 4 = (n + 3) + 1 from rfl, run_eq (df := d_are_times) rfl rfl (by decide)]
  show (evSs _ (run pg fuel (n + 3)) fuel c_are_times (okP [.int m, x]) [.int m, x, .no]).fin [.int m, x] = _
  obtain ⟨r, e⟩ := b_times (fun g => pg.glb[g]?) (run pg fuel (n + 3)) x hx m (r_row (n + 2) x hx m) (fun y hy => r_time n y hy)
  rw [e]; exact fin2 r
theorem r_are_wishes (n : Nat) (x : D) (hx : x.imm = true) (m : Int) : run pg fuel (n + 5) 7 [.int m, x] = .ok (.bl (wishesD m x)) [.int m, x] := by
  rw [show n + 5 = (n + 4) + 1 from rfl, run_eq (df := d_are_wishes) rfl rfl (by decide)]
  show (evSs _ (run pg fuel (n + 4)) fuel c_are_wishes (okP [.int m, x]) [.int m, x, .no]).fin [.int m, x] = _
  obtain ⟨r, e⟩ := b_wishes (fun g => pg.glb[g]?) (run pg fuel (n + 4)) x hx m (fun y hy => r_row (n + 3) y hy 2) (fun y hy => r_time (n + 1) y hy) (fun y hy => r_are_times n y hy m)
  rw [e]; exact fin2 r
theorem r_cause_time (n : Nat) (c : List Int) (ts : List (Option Int)) (hl : c.length = ts.length) (h9 : c.length ≤ 100) (hp : ∃ x ∈ c, 0 ≤ x) : run pg fuel (n + 1) 3 [tD c, tO ts] = .ok (oD (come (c.zip ts))) [tD c, tO ts] := by
  rw [run_eq (df := d_cause_time) rfl rfl (by decide)]
  have := b_cause_time (fun g => pg.glb[g]?) (run pg fuel n) fuel (c.zip ts) (by rw [List.length_zip]; omega) (sel_ne hl hp)
  rw [zip_fst hl, zip_snd hl] at this
  exact this
theorem r_list_time (n : Nat) (cs : List (List Int)) (ts : List (Option Int)) (hf : FitsP ts.length cs) (h9 : ts.length ≤ 100) : run pg fuel (n + 2) 4 [.tup (cs.map tD), tO ts] = .ok (oD (minI (times cs ts))) [.tup (cs.map tD), tO ts] := by
  rw [show n + 2 = (n + 1) + 1 from rfl, run_eq (df := d_list_time) rfl rfl (by decide)]
  exact b_list_time (fun g => pg.glb[g]?) (run pg fuel (n + 1)) cs ts fun c mc => r_cause_time n c ts (hf c mc).1 (by rw [(hf c mc).1]; exact h9) (hf c mc).2
theorem r_meets (n : Nat) (mm : Nat) (h9 : mm ≤ 100) (cs : List (List Int)) (hf : FitsP mm cs) (ws : List Wish) (hw : ∀ w ∈ ws, w.1.length = mm) (hl : ws.length ≤ 1000) : run pg fuel (n + 3) 8 [.tup (cs.map tD), .tup (ws.map wD)] = .ok (.bl (meetsB cs ws)) [.tup (cs.map tD), .tup (ws.map wD)] := by
  rw [show n + 3 = (n + 2) + 1 from rfl, run_eq (df := d_meets) rfl rfl (by decide)]
  show (evSs _ (run pg fuel (n + 2)) fuel c_meets (okP [.tup (cs.map tD), .tup (ws.map wD)]) [.tup (cs.map tD), .tup (ws.map wD), .no, .no]).fin [.tup (cs.map tD), .tup (ws.map wD)] = _
  rw [b_meets (fun g => pg.glb[g]?) (run pg fuel (n + 2)) cs ws hl fun w mw => r_list_time n cs w.1 (by rw [hw w mw]; exact hf) (by rw [hw w mw]; exact h9)]
  exact fin2 [.no, .no]
theorem r_own_cause (n : Nat) (w : Wish) (h : w.1 ≠ []) : run pg fuel (n + 1) 9 [wD w] = .ok (cD (ownC w.1 w.2)) [wD w] := by
  rw [run_eq (df := d_own_cause) rfl rfl (by decide)]
  exact b_own_cause (fun g => pg.glb[g]?) (run pg fuel n) fuel w h
def JJ : JK := ⟨40009, 80447, 3253, 1000117, 499, 7, 920419823, 128⟩
theorem JJ_ok : JJ.Ok := ⟨by decide, by decide, by decide, by decide, by decide, by decide, by decide⟩
theorem r_bowl (n : Nat) (k : Bool) (ns : List Int) (h : ns.length ≤ 63) : ∃ j : Jar, j.Ok ∧ run pg fuel (n + 1) 10 [.rol k (ns.map .int)] = .ok j.d [.rol k (ns.map .int)] := by
  rw [run_eq (df := d__law_bowl) rfl rfl (by decide)]
  exact b_jar 2147483549 21247 (by decide) (fun g => pg.glb[g]?) (run pg fuel n) fuel k ns h
theorem r_dip (n : Nat) : Dips (run pg fuel (n + 1)) := by
  intro j m hj h0 h1
  rw [run_eq (df := d__law_scoop) rfl rfl (by decide)]
  exact b_dip JJ JJ_ok (fun g => pg.glb[g]?) (run pg fuel n) fuel j hj m h0 h1
theorem r_same (n : Nat) (o : Option (List Int)) (hl : ∀ xs, o = some xs → xs.length ≤ 1000) : run pg fuel (n + 1) 12 [cD o, cD o] = .ok (.bl true) [cD o, cD o] := by
  rw [run_eq (df := d__law_same) rfl rfl (by decide)]
  show (evSs _ _ fuel c__law_same (okP [cD o, cD o]) [cD o, cD o, .no]).fin [cD o, cD o] = _
  obtain ⟨r, e⟩ := b_same (fun g => pg.glb[g]?) (run pg fuel n) o hl
  rw [e]; exact fin2 r
theorem r_truth (n : Nat) (a b : Bool) : run pg fuel (n + 1) 13 [.bl a, .bl b] = .ok (.bl (a == b)) [.bl a, .bl b] := by
  rw [run_eq (df := d__law_truth) rfl rfl (by decide)]
  show (evSs _ _ fuel c__law_truth (okP [.bl a, .bl b]) [.bl a, .bl b]).fin [.bl a, .bl b] = _
  rw [b_truth]; exact fin2 []
theorem r_own (n : Nat) (ts : List (Option Int)) (ht : ts ≠ []) (hl : ts.length ≤ 1000) (due : Option Int) : run pg fuel (n + 1) 14 [tO ts, oD due] = .ok (cD (ownC ts due)) [tO ts, oD due] := by
  rw [run_eq (df := d__law_own) rfl rfl (by decide)]
  show (evSs _ _ fuel c__law_own (okP [tO ts, oD due]) [tO ts, oD due, .no, .no]).fin [tO ts, oD due] = _
  obtain ⟨r, e⟩ := b_own (fun g => pg.glb[g]?) (run pg fuel n) ts ht hl due
  rw [e]; exact fin2 r
theorem r_law_time (n : Nat) (cs : List (List Int)) (ts : List (Option Int)) (hf : ∀ c ∈ cs, c.length = ts.length) (h9 : ts.length ≤ 1000) : run pg fuel (n + 1) 15 [.tup (cs.map tD), tO ts] = .ok (oD (bestL cs ts)) [.tup (cs.map tD), tO ts] := by
  rw [run_eq (df := d__law_time) rfl rfl (by decide)]
  show (evSs _ _ fuel c__law_time (okP [.tup (cs.map tD), tO ts]) [.tup (cs.map tD), tO ts, .no, .no, .no, .no]).fin [.tup (cs.map tD), tO ts] = _
  obtain ⟨r, e⟩ := b_law_time (fun g => pg.glb[g]?) (run pg fuel n) cs ts hf h9
  rw [e]; exact fin2 r
theorem r_law_list (n : Nat) (j : Jar) (hj : j.Ok) (mm : Nat) (h1 : 1 ≤ mm) (h0 : mm ≤ 100) (great : Int) (g0 : 0 < great) (g1 : great < 1073741824) :
    ∃ (cs : List (List Int)) (j' : Jar), cs ≠ [] ∧ cs.length ≤ 10 ∧ FitsP mm cs ∧ j'.Ok ∧ run pg fuel (n + 2) 16 [j.d, .int (mm : Int), .int great] = .ok (.tup (cs.map tD)) [j'.d, .int (mm : Int), .int great] := by
  obtain ⟨cs, j', r, a1, a2, a3, a4, e⟩ := b_law_list (fun g => pg.glb[g]?) (run pg fuel (n + 1)) (r_dip n) j hj mm h1 h0 great g0 g1
  refine ⟨cs, j', a1, a2, a3, a4, ?_⟩
  rw [show n + 2 = (n + 1) + 1 from rfl, run_eq (df := d__law_list) rfl rfl (by decide)]
  show (evSs _ _ fuel c__law_list (okP [j.d, .int (mm : Int), .int great]) [j.d, .int (mm : Int), .int great, .no, .no, .no, .no, .no, .no, .no, .no]).fin [j.d, .int (mm : Int), .int great] = _
  rw [e]; exact finJ j j' r
theorem r_law_times (n : Nat) (j : Jar) (hj : j.Ok) (mm : Nat) (h0 : mm ≤ 100) (great : Int) (g0 : 0 < great) (g1 : great < 1073741824) :
    ∃ (ts : List (Option Int)) (j' : Jar), ts.length = mm ∧ (∀ v, some v ∈ ts → 0 ≤ v) ∧ j'.Ok ∧ run pg fuel (n + 2) 17 [j.d, .int (mm : Int), .int great] = .ok (tO ts) [j'.d, .int (mm : Int), .int great] := by
  obtain ⟨ts, j', r, a1, a2, a3, e⟩ := b_law_times (fun g => pg.glb[g]?) (run pg fuel (n + 1)) (r_dip n) j hj mm h0 great g0 g1
  refine ⟨ts, j', a1, a2, a3, ?_⟩
  rw [show n + 2 = (n + 1) + 1 from rfl, run_eq (df := d__law_times) rfl rfl (by decide)]
  show (evSs _ _ fuel c__law_times (okP [j.d, .int (mm : Int), .int great]) [j.d, .int (mm : Int), .int great, .no, .no, .no]).fin [j.d, .int (mm : Int), .int great] = _
  rw [e]; exact finJ j j' r
theorem own_size {ts : List (Option Int)} {due : Option Int} (h : ts.length ≤ 1000) : ∀ xs, ownC ts due = some xs → xs.length ≤ 1000 := fun xs e => by
  have := (own_len (w := (ts, due)) e).1
  rw [this]; exact h
theorem r_asked (n : Nat) (ts : List (Option Int)) (ht : ts ≠ []) (hl : ts.length ≤ 1000) (due : Option Int) : run pg fuel (n + 2) 18 [tO ts, oD due] = .ok (.bl true) [tO ts, oD due] := by
  rw [show n + 2 = (n + 1) + 1 from rfl, run_eq (df := d__law_asked) rfl rfl (by decide)]
  show (evSs _ (run pg fuel (n + 1)) fuel c__law_asked (okP [tO ts, oD due]) [tO ts, oD due]).fin [tO ts, oD due] = _
  rw [b_asked (fun g => pg.glb[g]?) (run pg fuel (n + 1)) (tO ts) (oD due) (cD (ownC ts due)) (immL_oD ts) (oD_imm due) (cD_imm _) (r_own_cause n (ts, due) ht) (r_own n ts ht hl due) (r_same n _ (own_size hl))]
  exact fin2 []
theorem r_own_asked (n : Nat) (j : Jar) (hj : j.Ok) (mm : Nat) (h1 : 1 ≤ mm) (h0 : mm ≤ 100) (great : Int) (g0 : 0 < great) (g1 : great < 1073741824) :
    ∃ j' : Jar, j'.Ok ∧ run pg fuel (n + 3) 19 [j.d, .int (mm : Int), .int great] = .ok (.bl true) [j'.d, .int (mm : Int), .int great] := by
  have H := r_dip (n + 1)
  have o : ∀ i, 3 ≤ i → okP [j.d, .int (mm : Int), .int great] i = true := fun i hi => by unfold okP; rw [List.getElem?_eq_none (by simpa using hi)]
  obtain ⟨ts, j1, tl, _, k1, e1⟩ := r_law_times n j hj mm h0 great g0 g1
  obtain ⟨k, j2, a1, a2, k2, e2⟩ := H j1 (mm : Int) k1 (by omega) (by omega)
  obtain ⟨k, rfl⟩ := Int.eq_ofNat_of_zero_le a1
  have hk : k < ts.length := by omega
  obtain ⟨p, j3, p1, p2, k3, e3⟩ := H j2 great k2 g0 g1
  obtain ⟨v, j4, v1, v2, k4, e4⟩ := H j3 4 k3 (by decide) (by decide)
  obtain ⟨q, j5, q1, q2, k5, e5⟩ := H j4 great k4 g0 g1
  obtain ⟨d, j6, d1, d2, k6, e6⟩ := H j5 great k5 g0 g1
  have ne : ∀ us : List (Option Int), us.length = mm → us ≠ [] ∧ us.length ≤ 1000 := fun us h => ⟨by intro e; rw [e] at h; simp at h; omega, by omega⟩
  have hts2 : (ts.set k (some p)).length = mm := by simp [tl]
  have hit : (ts.set k (some p))[k]? = some (some p) := by rw [List.getElem?_set_self hk]
  have hitD : D.item (tO (ts.set k (some p))) (.int (k : Int)) = some (.int p) := by show D.item (.tup ((ts.set k (some p)).map oD)) _ = _; rw [item_nat, List.getElem?_map, hit]; rfl
  refine ⟨j6, k6, ?_⟩
  rw [show n + 3 = (n + 2) + 1 from rfl, run_eq (df := d__law_own_asked) rfl rfl (by decide)]
  show (evSs _ (run pg fuel (n + 2)) fuel c__law_own_asked (okP [j.d, .int (mm : Int), .int great]) [j.d, .int (mm : Int), .int great, .no, .no, .no, .no, .no]).fin [j.d, .int (mm : Int), .int great] = _
  obtain ⟨x, eb⟩ := oa_b (fun g => pg.glb[g]?) (run pg fuel (n + 2)) mm great (okP [j.d, .int (mm : Int), .int great]) o j3.d j4.d j5.d rfl rfl (tO (ts.set k (some p))) (immL_oD _) k p v q hitD e4 e5 (fun due => r_asked n _ (ne _ hts2).1 (ne _ hts2).2 due)
  have hlate : ((ts.set k (some p)).map (fun t => t.map fun t => t + d + 1)).length = mm := by rw [List.length_map, hts2]
  rw [oa_eq, oa_a (fun g => pg.glb[g]?) (run pg fuel (n + 2)) mm great _ o j.d j1.d j2.d j3.d rfl rfl rfl ts k hk p e1 e2 e3, e_cons, eb, e_nx,
    oa_c (fun g => pg.glb[g]?) (run pg fuel (n + 2)) mm great _ o h1 h0 j5.d j6.d rfl (ts.set k (some p)) k p d x hit e6 (fun us due hu => by
      have : us.length = mm := by rcases hu with rfl | rfl | rfl <;> simp [tl]
      exact r_asked n us (ne us this).1 (ne us this).2 due) (cD (ownC ((ts.set k (some p)).map (fun t => t.map fun t => t + d + 1)) (some (d + p + 1)))) (cD_imm _)
      (r_own_cause (n + 1) ((ts.set k (some p)).map (fun t => t.map fun t => t + d + 1), some (d + p + 1)) (ne _ hlate).1) (r_own (n + 1) _ (ne _ hlate).1 (ne _ hlate).2 (some (d + p + 1))) (r_same (n + 1) _ (own_size (ne _ hlate).2))]
  exact finJ j j6 _
/-! ### changed wishes -/
def chW (ws : List Wish) (k : Nat) (w : Wish) : List Wish := ws.take k ++ [w] ++ ws.drop (k + 1)
theorem chW_map (ws : List Wish) (k : Nat) (w : Wish) : (chW ws k w).map wD = (ws.map wD).take k ++ [wD w] ++ (ws.map wD).drop (k + 1) := by unfold chW; simp [List.map_take, List.map_drop]
theorem r_changed (n : Nat) (mm : Nat) (ws : List Wish) (hw : ∀ w ∈ ws, Row mm w) (hl : ws.length ≤ 100) (h0 : 0 < ws.length) (j : Jar) (hj : j.Ok) (great : Int) (g0 : 0 < great) (g1 : great < 1073741824) :
    ∃ (k : Nat) (f : Option Int) (j' : Jar) (hk : k < ws.length), f ≠ ws[k].2 ∧ j'.Ok ∧ run pg fuel (n + 2) 20 [j.d, .tup (ws.map wD), .int great] = .ok (.tup ((chW ws k (ws[k].1, f)).map wD)) [j'.d, .tup (ws.map wD), .int great] := by
  have H := r_dip n
  obtain ⟨a, j1, a1, a2, a3, a4⟩ := H j (ws.length : Int) hj (by omega) (by omega)
  obtain ⟨b, j2, b1, b2, b3, b4⟩ := H j1 3 a3 (by decide) (by decide)
  obtain ⟨p, j3, p1, p2, p3, p4⟩ := H j2 great b3 g0 g1
  obtain ⟨k, rfl⟩ := Int.eq_ofNat_of_zero_le a1
  obtain ⟨wy, rfl⟩ := Int.eq_ofNat_of_zero_le b1
  have hk : k < ws.length := by omega
  have hwy : wy < 3 := by omega
  have hlen : (ws.map wD).length = ws.length := List.length_map ..
  have hwk : (ws.map wD)[k]? = some (wD ws[k]) := by rw [List.getElem?_map, List.getElem?_eq_getElem hk]; rfl
  have o : ∀ i, 3 ≤ i → okP [j.d, .tup (ws.map wD), .int great] i = true := fun i hi => by unfold okP; rw [List.getElem?_eq_none (by simpa using hi)]
  have hrow := hw ws[k] (List.getElem_mem hk)
  rw [show n + 2 = (n + 1) + 1 from rfl, run_eq (df := d__law_changed) rfl rfl (by decide)]
  show ∃ (k : Nat) (f : Option Int) (j' : Jar) (hk : k < ws.length), f ≠ ws[k].2 ∧ j'.Ok ∧ (evSs _ (run pg fuel (n + 1)) fuel c__law_changed (okP [j.d, .tup (ws.map wD), .int great]) [j.d, .tup (ws.map wD), .int great, .no, .no, .no, .no, .no]).fin [j.d, .tup (ws.map wD), .int great] = _
  cases hd : ws[k].2 with
  | none =>
    obtain ⟨f, r, fn, e⟩ := ch_none (fun g => pg.glb[g]?) (run pg fuel (n + 1)) j.d j1.d j2.d (tO ws[k].1) (wD ws[k]) rfl rfl rfl (ws.map wD) (immL_wD ws) (by omega) k wy hwy great hwk (wD_imm _) rfl (immL_oD _) (by rw [hlen]; exact a4) b4 _ o j3.d p (by show some (oD ws[k].2) = _; rw [hd]; rfl) p4
    exact ⟨k, f, j3, hk, by rw [hd]; exact fn, p3, by rw [e, finJ, chW_map]; rfl⟩
  | some d =>
    obtain ⟨f, r, fn, e⟩ := ch_some (fun g => pg.glb[g]?) (run pg fuel (n + 1)) j.d j1.d j2.d (tO ws[k].1) (wD ws[k]) rfl rfl rfl (ws.map wD) (immL_wD ws) (by omega) k wy hwy great hwk (wD_imm _) rfl (immL_oD _) (by rw [hlen]; exact a4) b4 _ o d (hrow.2.2 d hd) (by show some (oD ws[k].2) = _; rw [hd]; rfl)
    exact ⟨k, f, j2, hk, by rw [hd]; exact fn, b3, by rw [e, finJ, chW_map]; rfl⟩
end K
end

section
set_option maxRecDepth 100000
set_option linter.all false
namespace K
open Ev
/-! ### plain: which wishes are met -/
theorem come_pos {zs : List (Int × Option Int)} {v : Int} (hp : ∀ z ∈ zs, ∀ t, z.2 = some t → 0 ≤ t) (h : come zs = some v) : 0 ≤ v := by
  unfold come at h
  split at h
  · cases h
  · rename_i hn
    obtain ⟨z, mz, e⟩ := List.mem_map.mp (maxI_mem h).1
    have h1 : z ∈ zs := (List.mem_filter.mp mz).1
    have h2 : 0 ≤ z.1 := by simpa using (List.mem_filter.mp mz).2
    cases e2 : z.2 with
    | none => rw [e2] at e; have e : 0 + z.1 = v := e; omega
    | some t => rw [e2] at e; have e : t + z.1 = v := e; have := hp z h1 t e2; omega
theorem due_pos {cs : List (List Int)} {ts : List (Option Int)} (hp : ∀ t, some t ∈ ts → 0 ≤ t) {d : Int} (h : minI (times cs ts) = some d) : 0 ≤ d := by
  obtain ⟨c, _, e⟩ := List.mem_filterMap.mp (minI_mem h).1
  exact come_pos (fun z mz t e2 => hp t (by rw [← e2]; exact (List.of_mem_zip (show (z.1, z.2) ∈ _ from mz)).2)) e
structure Made (mm : Nat) (cs : List (List Int)) (ws : List Wish) : Prop where
  row : ∀ w ∈ ws, Row mm w
  due : ∀ w ∈ ws, w.2 = minI (times cs w.1)
theorem meets_yes {mm : Nat} {cs : List (List Int)} {ws : List Wish} (h : Made mm cs ws) : meetsB cs ws = true := by
  unfold meetsB
  rw [List.all_eq_true]
  intro w mw
  rw [h.due w mw]; simp
theorem meets_no {cs : List (List Int)} {ws : List Wish} {w : Wish} (mw : w ∈ ws) (h : minI (times cs w.1) ≠ w.2) : meetsB cs ws = false := by
  unfold meetsB
  rw [List.all_eq_false]
  exact ⟨w, mw, by simpa using h⟩
theorem meets_ch {mm : Nat} {cs : List (List Int)} {ws : List Wish} (h : Made mm cs ws) {k : Nat} (hk : k < ws.length) {f : Option Int} (hf : f ≠ ws[k].2) {us : List Wish} (hu : ∀ w ∈ chW ws k (ws[k].1, f), w ∈ us) : meetsB cs us = false := by
  refine meets_no (w := (ws[k].1, f)) (hu _ (by unfold chW; simp)) ?_
  rw [← h.due ws[k] (List.getElem_mem hk)]
  exact fun e => hf e.symm
theorem ch_row {mm : Nat} {ws : List Wish} (h : ∀ w ∈ ws, w.1.length = mm) {k : Nat} (hk : k < ws.length) (f : Option Int) : ∀ w ∈ chW ws k (ws[k].1, f), w.1.length = mm := by
  intro w m
  unfold chW at m
  simp only [List.mem_append, List.mem_singleton] at m
  rcases m with (m | rfl) | m
  · exact h w (List.mem_of_mem_take m)
  · exact h ws[k] (List.getElem_mem hk)
  · exact h w (List.mem_of_mem_drop m)
theorem ch_len (ws : List Wish) (k : Nat) (w : Wish) : (chW ws k w).length ≤ ws.length + 1 := by unfold chW; simp; omega
def nev (ws : List Wish) : List Wish := ws.map fun w => (w.1, none)
theorem nev_map (ws : List Wish) : (nev ws).map wD = ws.map fun w => wD (w.1, none) := by unfold nev; rw [List.map_map]; rfl
theorem meets_nil (ws : List Wish) : meetsB [] (nev ws) = true := by
  unfold meetsB nev
  rw [List.all_eq_true]
  intro w mw
  obtain ⟨u, _, rfl⟩ := List.mem_map.mp mw
  rfl
theorem meets_nev {mm : Nat} {cs : List (List Int)} {ws : List Wish} (h : Made mm cs ws) : meetsB cs (nev ws) = ws.all fun w => decide (w.2 = none) := by
  unfold meetsB nev
  rw [List.all_map]
  have : ∀ l : List Wish, (∀ w ∈ l, w ∈ ws) → l.all ((fun w => decide (minI (times cs w.1) = w.2)) ∘ fun w => ((w.1, none) : Wish)) = l.all fun w => decide (w.2 = none) := by
    intro l
    induction l with
    | nil => intro _; rfl
    | cons w l ih =>
      intro hl
      rw [List.all_cons, List.all_cons, ih fun x m => hl x (List.mem_cons_of_mem _ m), h.due w (hl w List.mem_cons_self)]
      rfl
  exact this ws fun _ m => m
theorem r_meets_asked (n : Nat) (mm : Nat) (h1 : 1 ≤ mm) (h0 : mm ≤ 100) (cs : List (List Int)) (hcs : cs ≠ []) (hcl : cs.length ≤ 10) (hf : FitsP mm cs) (ws : List Wish) (hm : Made mm cs ws) (hl : ws.length ≤ 50) (hw0 : 0 < ws.length) (j : Jar) (hj : j.Ok) (great : Int) (g0 : 0 < great) (g1 : great < 1073741824) :
    ∃ j' : Jar, j'.Ok ∧ run pg fuel (n + 4) 21 [j.d, .tup (cs.map tD), .tup (ws.map wD), .int great] = .ok (.bl true) [j'.d, .tup (cs.map tD), .tup (ws.map wD), .int great] := by
  have o : ∀ i, 4 ≤ i → okP [j.d, .tup (cs.map tD), .tup (ws.map wD), .int great] i = true := fun i hi => by unfold okP; rw [List.getElem?_eq_none (by simpa using hi)]
  have rl : ∀ w ∈ ws, w.1.length = mm := fun w m => (hm.row w m).1
  have M := fun (cs' : List (List Int)) (f' : FitsP mm cs') (us : List Wish) (hu : ∀ w ∈ us, w.1.length = mm) (hul : us.length ≤ 1000) => r_meets n mm h0 cs' f' us hu hul
  have f0 : FitsP mm [] := fun _ m => nomatch m
  obtain ⟨k1, f1, j1, hk1, ne1, ok1, e1⟩ := r_changed (n + 1) mm ws hm.row (by omega) hw0 j hj great g0 g1
  have c1 := M cs hf ws rl (by omega)
  rw [meets_yes hm] at c1
  have c3 := M cs hf _ (ch_row rl hk1 f1) (by have := ch_len ws k1 (ws[k1].1, f1); omega)
  rw [meets_ch hm hk1 ne1 fun w m => m] at c3
  have nr : ∀ w ∈ nev ws, w.1.length = mm := fun w m => by obtain ⟨u, mu, rfl⟩ := List.mem_map.mp m; exact rl u mu
  have nl : (nev ws).length = ws.length := List.length_map ..
  have c4 := M [] f0 (nev ws) nr (by omega)
  rw [meets_nil] at c4
  have c5 := M [] f0 ((nev ws).drop 1 ++ [(ws[0].1, some 3)]) (fun w m => by
    rcases List.mem_append.mp m with m | m
    · exact nr w (List.mem_of_mem_drop m)
    · rw [List.mem_singleton.mp m]; exact rl ws[0] (List.getElem_mem hw0)) (by simp; omega)
  rw [meets_no (w := (ws[0].1, some 3)) (by simp) (show minI (times [] ws[0].1) ≠ some 3 by intro e; cases e)] at c5
  rw [List.map_append, List.map_cons, List.map_nil, List.map_drop] at c5
  have c6 := M cs hf (nev ws) nr (by omega)
  rw [meets_nev hm] at c6
  obtain ⟨a, j2, a1, a2, ok2, e2⟩ := r_dip (n + 2) j1 (cs.length : Int) ok1 (by have := List.length_pos_iff.mpr hcs; omega) (by omega)
  obtain ⟨k, rfl⟩ := Int.eq_ofNat_of_zero_le a1
  have hk : k < cs.length := by omega
  have fl : FitsP mm (cs.take k ++ cs.drop (k + 1)) := fun c m => by
    rcases List.mem_append.mp m with m | m
    · exact hf c (List.mem_of_mem_take m)
    · exact hf c (List.mem_of_mem_drop m)
  have ml : (cs.take k ++ cs.drop (k + 1)).map tD = (cs.map tD).take k ++ (cs.map tD).drop (k + 1) := by simp [List.map_take, List.map_drop]
  have c7 := M _ fl ws rl (by omega)
  have hless : meetsB (cs.take k ++ cs.drop (k + 1)) ws = ws.all fun w => decide (bestL (cs.take k ++ cs.drop (k + 1)) w.1 = w.2) := by
    unfold meetsB
    have : ∀ l : List Wish, (∀ w ∈ l, w ∈ ws) → l.all (fun w => decide (minI (times (cs.take k ++ cs.drop (k + 1)) w.1) = w.2)) = l.all fun w => decide (bestL (cs.take k ++ cs.drop (k + 1)) w.1 = w.2) := by
      intro l
      induction l with
      | nil => intro _; rfl
      | cons w l ih =>
        intro hl
        have mw := hl w List.mem_cons_self
        rw [List.all_cons, List.all_cons, ih fun x m => hl x (List.mem_cons_of_mem _ m), bestL_eq (by rw [rl w mw]; exact fl) (hm.row w mw).2.1]
    exact this ws fun _ m => m
  rw [hless, ml] at c7
  have c8 := M cs hf [] (fun _ m => nomatch m) (by simp)
  obtain ⟨k2, f2, j3, hk2, ne2, ok3, e3⟩ := r_changed (n + 1) mm ws hm.row (by omega) hw0 j2 ok2 great g0 g1
  have c9 := M cs hf (ws ++ chW ws k2 (ws[k2].1, f2)) (fun w m => by
    rcases List.mem_append.mp m with m | m
    · exact rl w m
    · exact ch_row rl hk2 f2 w m) (by have := ch_len ws k2 (ws[k2].1, f2); rw [List.length_append]; omega)
  rw [meets_ch hm hk2 ne2 fun w m => List.mem_append_right _ m, List.map_append] at c9
  have lenC : (cs.map tD).length = cs.length := List.length_map ..
  obtain ⟨x, ef⟩ := mb_f (fun g => pg.glb[g]?) (run pg fuel (n + 3)) great _ o j2.d (.tup (cs.map tD)) (D.tup (ws.map fun w : Wish => wD (w.1, none))) (.bl (ws.all fun w => decide (w.2 = none))) (.int (k : Int)) (.tup ((cs.map tD).take k ++ (cs.map tD).drop (k + 1))) rfl ws (bestL (cs.take k ++ cs.drop (k + 1)))
    (fun w mw => by have := r_law_time (n + 2) (cs.take k ++ cs.drop (k + 1)) w.1 (fun c m => by rw [(fl c m).1, rl w mw]) (by rw [rl w mw]; omega); rw [ml] at this; exact this)
  refine ⟨j3, ok3, ?_⟩
  rw [show n + 4 = (n + 3) + 1 from rfl, run_eq (df := d__law_meets_asked) rfl rfl (by decide)]
  show (evSs _ (run pg fuel (n + 3)) fuel c__law_meets_asked (okP [j.d, .tup (cs.map tD), .tup (ws.map wD), .int great]) [j.d, .tup (cs.map tD), .tup (ws.map wD), .int great, .no, .no, .no, .no, .no, .no]).fin [j.d, .tup (cs.map tD), .tup (ws.map wD), .int great] = _
  have hC := immL_tD cs
  have hN : D.immL (ws.map fun w => wD (w.1, none)) = true := by rw [← nev_map]; exact immL_wD _
  rw [nev_map] at c4 c5 c6
  have A := mb_a (fun g => pg.glb[g]?) (run pg fuel (n + 3)) great _ o j.d j1.d (.tup (cs.map tD)) (.tup (ws.map wD)) (.tup ((chW ws k1 (ws[k1].1, f1)).map wD)) rfl hC (immL_wD _) (immL_wD _) (by exact c1) (by exact e1) (by exact c3)
  have B := mb_b (fun g => pg.glb[g]?) (run pg fuel (n + 3)) great _ o j1.d (.tup (cs.map tD)) ws
  have C := mb_c (fun g => pg.glb[g]?) (run pg fuel (n + 3)) great _ o j1.d (.tup (cs.map tD)) (tO ws[0].1) (wD ws[0]) (ws.map wD) (ws.map fun w => wD (w.1, none)) (immL_wD _) hN (by simp; omega) (by rw [List.getElem?_map, List.getElem?_eq_getElem hw0]; rfl) (wD_imm _) rfl (immL_oD _) (by exact c4) (by exact c5)
  have Dd := mb_d (fun g => pg.glb[g]?) (run pg fuel (n + 3)) great _ o j1.d (.tup (cs.map tD)) (D.tup (ws.map fun w : Wish => wD (w.1, none))) ws
  have tr : ∀ b : Bool, run pg fuel (n + 3) 13 [.bl b, .bl b] = .ok (.bl true) [.bl b, .bl b] := fun b => by have := r_truth (n + 2) b b; rw [beq_self_eq_true] at this; exact this
  have Ee := fun rest => mb_e (fun g => pg.glb[g]?) (run pg fuel (n + 3)) great _ o j1.d j2.d (.tup (ws.map wD)) (D.tup (ws.map fun w : Wish => wD (w.1, none))) (cs.map tD) hC (by omega) rfl (by exact hN) (ws.all fun w => decide (w.2 = none)) k (by exact c6) (by exact tr _) (by rw [lenC]; exact e2) rest
  have G := mb_g (fun g => pg.glb[g]?) (run pg fuel (n + 3)) great _ o j2.d j3.d (.tup (cs.map tD)) (D.tup (ws.map fun w : Wish => wD (w.1, none))) (.bl (ws.all fun w => decide (w.2 = none))) (.int (k : Int)) (.tup ((cs.map tD).take k ++ (cs.map tD).drop (k + 1))) x hC (by show D.immL _ = true; rw [← ml]; exact immL_tD _) rfl
    (ws.all fun w => decide (bestL (cs.take k ++ cs.drop (k + 1)) w.1 = w.2)) (ws.map wD) ((chW ws k2 (ws[k2].1, f2)).map wD) (immL_wD _) (immL_wD _) (by rw [List.length_map, List.length_map]; have := ch_len ws k2 (ws[k2].1, f2); omega) (by exact c7) (by exact tr _) (by exact c8) (by exact e3) (by exact c9)
  rw [mb_eq, e_cons, A, e_nx, e_cons, B, e_nx, e_cons, C, e_nx, e_cons, Dd, e_nx, Ee, e_cons, ef, e_nx, G]
  exact finJ3 j j3 _
end K
end

section
set_option maxRecDepth 100000
set_option linter.all false
namespace K
open Ev
theorem finJ1 {x d : D} (j j' : Jar) (r : Env) : (O.rt d (j'.d :: x :: r)).fin [j.d, x] = .ok d [j'.d, x] := by
  show R.ok d [j'.d, if x.imm = true then x else x] = _
  simp
theorem r_bent (n : Nat) (j : Jar) (hj : j.Ok) (w : Wish) (mm : Nat) (h1 : 1 ≤ mm) (h0 : mm ≤ 100) (hw : w.1.length = mm) :
    ∃ (B : D) (j' : Jar), B.imm = true ∧ wishD (mm : Int) B = false ∧ j'.Ok ∧ run pg fuel (n + 2) 22 [j.d, wD w] = .ok B [j'.d, wD w] := by
  have H := r_dip n
  have o : ∀ i, 2 ≤ i → okP [j.d, wD w] i = true := fun i hi => by unfold okP; rw [List.getElem?_eq_none (by simpa using hi)]
  obtain ⟨k, j1, a1, a2, k1, e1⟩ := H j (mm : Int) hj (by omega) (by omega)
  obtain ⟨k, rfl⟩ := Int.eq_ofNat_of_zero_le a1
  obtain ⟨v, j2, v1, v2, k2, e2⟩ := H j1 12 k1 (by decide) (by decide)
  obtain ⟨y, j3, y1, y2, k3, e3⟩ := H j2 13 k2 (by decide) (by decide)
  obtain ⟨wy, rfl⟩ := Int.eq_ofNat_of_zero_le y1
  obtain ⟨u, j4, u1, u2, k4, e4⟩ := H j3 9 k3 (by decide) (by decide)
  obtain ⟨od, mo, hod⟩ := tabD (xs := odds) v1 v2
  obtain ⟨io, to⟩ := odds_ok od mo
  have hwl : (w.1.map oD).length = mm := by rw [List.length_map, hw]
  obtain ⟨B, J1, r, iB, wB, ⟨j', hj', rfl⟩, eB⟩ := bp_b (fun g => pg.glb[g]?) (run pg fuel (n + 1)) (okP [j.d, wD w]) j3.d (wD w) od w.2 w.1 (by omega) (by omega) rfl io to k wy (by omega) (by omega) ⟨u, j4.d, u1, u2, e4⟩ (fun J => ∃ j' : Jar, j'.Ok ∧ J = j'.d) ⟨j3, k3, rfl⟩ (fun u' J' e' => by
    rw [e4] at e'
    injection e' with h1 h2
    injection h2 with h3 h4
    exact ⟨j4, k4, h3.symm⟩)
  rw [hw] at wB
  refine ⟨B, j', iB, wB, hj', ?_⟩
  rw [show n + 2 = (n + 1) + 1 from rfl, run_eq (df := d__law_bent_pair) rfl rfl (by decide)]
  show (evSs _ (run pg fuel (n + 1)) fuel c__law_bent_pair (okP [j.d, wD w]) [j.d, wD w, .no, .no, .no, .no, .no]).fin [j.d, wD w] = _
  rw [bp_eq, bp_a (fun g => pg.glb[g]?) (run pg fuel (n + 1)) _ o j.d j1.d j2.d j3.d (wD w) (oD w.2) od (w.1.map oD) rfl rfl rfl (immL_oD _) (oD_imm _) (wD_imm w) rfl rfl (k : Int) v (wy : Int) (by rw [hwl]; exact e1) (by exact e2) hod io (by exact e3), eB]
  exact finJ1 j j' r
theorem r_kinds (n : Nat) (mm : Nat) (h1 : 1 ≤ mm) (h0 : mm ≤ 6) (ws : List Wish) (hr : ∀ w ∈ ws, Row mm w) (hl : ws.length ≤ 50) (hw0 : 0 < ws.length) (j : Jar) (hj : j.Ok) :
    ∃ j' : Jar, run pg fuel (n + 6) 23 [j.d, .int (mm : Int), .tup (ws.map wD)] = .ok (.bl true) [j'.d, .int (mm : Int), .tup (ws.map wD)] := by
  have o : ∀ i, 3 ≤ i → okP [j.d, .int (mm : Int), .tup (ws.map wD)] i = true := fun i hi => by unfold okP; rw [List.getElem?_eq_none (by simpa using hi)]
  have hW := immL_wD ws
  have hlen : (ws.map wD).length = ws.length := List.length_map ..
  have K := fun (x : D) (hx : x.imm = true) (m : Int) => r_are_wishes n x hx m
  have c1 := K (.tup (ws.map wD)) hW (mm : Int)
  rw [wishes_ok hr] at c1
  have c2 := K (.tup []) rfl (mm : Int)
  have e3 : (ws ++ ws.take 1).map wD = ws.map wD ++ (ws.map wD).take 1 := by simp [List.map_take]
  have c3 := K (.tup ((ws ++ ws.take 1).map wD)) (immL_wD _) (mm : Int)
  rw [wishes_ok (fun w m => by
    rcases List.mem_append.mp m with m | m
    · exact hr w m
    · exact hr w (List.mem_of_mem_take m)), e3] at c3
  have c4 := K (.tup (ws.map wD)) hW ((mm : Int).fmod 6 + 1)
  rw [wishes_no (p := wD ws[0]) (List.mem_map_of_mem (List.getElem_mem hw0)) (by
    rw [wish_ok (hr ws[0] (List.getElem_mem hw0)), decide_eq_false_iff_not]
    have : mm = 1 ∨ mm = 2 ∨ mm = 3 ∨ mm = 4 ∨ mm = 5 ∨ mm = 6 := by omega
    rcases this with rfl | rfl | rfl | rfl | rfl | rfl <;> decide)] at c4
  obtain ⟨j1, x, y, z, k1, e4⟩ := ka_loop (fun g => pg.glb[g]?) (run pg fuel (n + 5)) (mm : Int) _ o (ws.map wD) hW (by omega) (by omega) (r_dip (n + 4)) j hj (fun j' k Y hj' hk => by
    rw [List.getElem?_map] at hk
    obtain ⟨w, hw, rfl⟩ := Option.map_eq_some_iff.mp hk
    obtain ⟨B, j2, iB, wB, k2, eB⟩ := r_bent (n + 3) j' hj' w mm h1 (by omega) (hr w (List.mem_of_getElem? hw)).1
    have hi : D.immL ((ws.map wD).take k ++ [B] ++ (ws.map wD).drop (k + 1)) = true := by simp [immL_take hW k, immL_drop hW (k + 1), iB]
    have c := K (.tup ((ws.map wD).take k ++ [B] ++ (ws.map wD).drop (k + 1))) hi (mm : Int)
    rw [wishes_no (p := B) (by simp) wB] at c
    exact ⟨B, j2, wD_imm w, iB, k2, eB, c⟩)
  obtain ⟨v, j3, v1, v2, k3, e5⟩ := r_dip (n + 4) j1 10 k1 (by decide) (by decide)
  obtain ⟨od, mo, hod⟩ := tabD (xs := odds2 (ws.map wD) (wD ws[0])) v1 v2
  obtain ⟨io, wo⟩ := odds2_no (List.getElem?_eq_getElem hw0) hr od mo
  have c5 := K od io (mm : Int)
  rw [wo] at c5
  refine ⟨j3, ?_⟩
  rw [show n + 6 = (n + 5) + 1 from rfl, run_eq (df := d__law_kinds_asked) rfl rfl (by decide)]
  show (evSs _ (run pg fuel (n + 5)) fuel c__law_kinds_asked (okP [j.d, .int (mm : Int), .tup (ws.map wD)]) [j.d, .int (mm : Int), .tup (ws.map wD), .no, .no, .no, .no]).fin [j.d, .int (mm : Int), .tup (ws.map wD)] = _
  have A := fun rest => ka_a (fun g => pg.glb[g]?) (run pg fuel (n + 5)) (mm : Int) _ o (ws.map wD) hW (by omega) j.d (by exact c1) (by exact c2) (by exact c3) (by exact c4) rest
  have Z := ka_end (fun g => pg.glb[g]?) (run pg fuel (n + 5)) (mm : Int) _ o (ws.map wD) hW (by omega) j1.d j3.d (wD ws[0]) od x y z rfl v (by rw [List.getElem?_map, List.getElem?_eq_getElem hw0]; rfl) (wD_imm _) (by exact e5) hod io (by exact c5)
  rw [ka_eq, A, e_cons, e4, e_nx, Z]
  exact finJ j j3 _
/-! ### law -/
def lw0 : S := (.set (.nm 1) (.call 10 (.cons (.lend 0) .nil)))
def lw1 : S := (.set (.nm 2) (.idx (.lst (.cons (.int 2) (.cons (.int 3) (.cons (.int 1) (.cons (.int 4) (.cons (.int 2) (.cons (.int 6) .nil))))))) (.call 11 (.cons (.lend 1) (.cons (.int 6) .nil)))))
def lw2 : S := (.set (.nm 3) (.idx (.lst (.cons (.int 4) (.cons (.int 10) (.cons (.int 3) (.cons (.int 1000) (.cons (.int 49000) .nil)))))) (.call 11 (.cons (.lend 1) (.cons (.int 5) .nil)))))
def lw3 : S := (.set (.nm 4) (.call 16 (.cons (.lend 1) (.cons (.lend 2) (.cons (.lend 3) .nil)))))
def lw4 : S := (.set (.nm 5) (.idx (.lst (.cons (.int 3) (.cons (.int 2) (.cons (.int 4) (.cons (.int 1) (.cons (.int 5) (.cons (.int 3) (.cons (.int 2) (.cons (.int 4) (.cons (.int 6) (.cons (.int 3) (.cons (.int 2) (.cons (.int 4) (.cons (.int 20) .nil)))))))))))))) (.call 11 (.cons (.lend 1) (.cons (.int 13) .nil)))))
def lw5 : S := (.set (.nm 6) (.tup .nil))
def lw6 : S := (.loop (.nm 7) (.rng1 (.var 5)) (.cons (.set (.nm 9) (.call 17 (.cons (.lend 1) (.cons (.lend 2) (.cons (.lend 3) .nil))))) (.cons (.set (.nm 6) (.bin .add (.var 6) (.tup (.cons (.tup (.cons (.mov 9) (.cons (.call 15 (.cons (.lend 4) (.cons (.lend 9) .nil))) .nil))) .nil)))) .nil)))
def lw7 : S := (.loop (.nm 8) (.froz 6) (.cons (.ite (.not (.call 18 (.cons (.idx (.var 8) (.int 0)) (.cons (.idx (.var 8) (.int 1)) .nil)))) (.cons (.ret (.bl false)) .nil) .nil) .nil))
def lw8 : S := (.ite (.or (.not (.call 19 (.cons (.lend 1) (.cons (.lend 2) (.cons (.lend 3) .nil))))) (.not (.call 21 (.cons (.lend 1) (.cons (.lend 4) (.cons (.lend 6) (.cons (.lend 3) .nil))))))) (.cons (.ret (.bl false)) .nil) .nil)
def lw9 : S := (.ret (.call 23 (.cons (.lend 1) (.cons (.lend 2) (.cons (.lend 6) .nil)))))
theorem lw_eq : c_law = (.cons lw0 (.cons lw1 (.cons lw2 (.cons lw3 (.cons lw4 (.cons lw5 (.cons lw6 (.cons lw7 (.cons lw8 (.cons lw9 .nil)))))))))) := rfl
theorem lw_0 (gl : Nat → Option D) (call : Nat → List D → R D) (kk : Bool) (X : List D) (ok : Nat → Bool) (o : ∀ i, 1 ≤ i → ok i = true) (J : D) (c : call 10 [.rol kk X] = .ok J [.rol kk X]) : evS gl call fuel lw0 ok [.rol kk X, .no, .no, .no, .no, .no, .no, .no, .no, .no] = .nx [.rol kk X, J, .no, .no, .no, .no, .no, .no, .no, .no] := by
  have o1 := o 1 (by decide)
  unfold lw0
  simp [c, o1]
theorem lw_1 (gl : Nat → Option D) (call : Nat → List D → R D) (kk : Bool) (X : List D) (ok : Nat → Bool) (o : ∀ i, 1 ≤ i → ok i = true) (m1 m2 m4 : D) (J J2 : D) (v x : Int) (nJ : J.isNo = false) (c : call 11 [J, .int 6] = .ok (.int v) [J2, .int 6]) (hx : D.item (.lst [.int 2, .int 3, .int 1, .int 4, .int 2, .int 6]) (.int v) = some (.int x)) : evS gl call fuel lw1 ok [.rol kk X, J, .no, .no, .no, .no, .no, .no, .no, .no] = .nx [.rol kk X, J2, .int x, .no, .no, .no, .no, .no, .no, .no] := by
  have os := o 2 (by decide)
  unfold lw1
  simp [c, nJ, os, hx, fits_of]
theorem lw_2 (gl : Nat → Option D) (call : Nat → List D → R D) (kk : Bool) (X : List D) (ok : Nat → Bool) (o : ∀ i, 1 ≤ i → ok i = true) (m1 m2 m4 : D) (J J2 : D) (v x : Int) (nJ : J.isNo = false) (c : call 11 [J, .int 5] = .ok (.int v) [J2, .int 5]) (hx : D.item (.lst [.int 4, .int 10, .int 3, .int 1000, .int 49000]) (.int v) = some (.int x)) : evS gl call fuel lw2 ok [.rol kk X, J, m1, .no, .no, .no, .no, .no, .no, .no] = .nx [.rol kk X, J2, m1, .int x, .no, .no, .no, .no, .no, .no] := by
  have os := o 3 (by decide)
  unfold lw2
  simp [c, nJ, os, hx, fits_of]
theorem lw_4 (gl : Nat → Option D) (call : Nat → List D → R D) (kk : Bool) (X : List D) (ok : Nat → Bool) (o : ∀ i, 1 ≤ i → ok i = true) (m1 m2 m4 : D) (J J2 : D) (v x : Int) (nJ : J.isNo = false) (c : call 11 [J, .int 13] = .ok (.int v) [J2, .int 13]) (hx : D.item (.lst [.int 3, .int 2, .int 4, .int 1, .int 5, .int 3, .int 2, .int 4, .int 6, .int 3, .int 2, .int 4, .int 20]) (.int v) = some (.int x)) : evS gl call fuel lw4 ok [.rol kk X, J, m1, m2, m4, .no, .no, .no, .no, .no] = .nx [.rol kk X, J2, m1, m2, m4, .int x, .no, .no, .no, .no] := by
  have os := o 5 (by decide)
  unfold lw4
  simp [c, nJ, os, hx, fits_of]
theorem lw_3 (gl : Nat → Option D) (call : Nat → List D → R D) (kk : Bool) (X : List D) (ok : Nat → Bool) (o : ∀ i, 1 ≤ i → ok i = true) (mm : Nat) (great : Int) (J J2 T : D) (nJ : J.isNo = false) (c : call 16 [J, .int (mm : Int), .int great] = .ok T [J2, .int (mm : Int), .int great]) : evS gl call fuel lw3 ok [.rol kk X, J, .int (mm : Int), .int great, .no, .no, .no, .no, .no, .no] = .nx [.rol kk X, J2, .int (mm : Int), .int great, T, .no, .no, .no, .no, .no] := by
  have os := o 4 (by decide)
  unfold lw3
  simp [c, nJ, os]
def bLw : Ss := (.cons (.set (.nm 9) (.call 17 (.cons (.lend 1) (.cons (.lend 2) (.cons (.lend 3) .nil))))) (.cons (.set (.nm 6) (.bin .add (.var 6) (.tup (.cons (.tup (.cons (.mov 9) (.cons (.call 15 (.cons (.lend 4) (.cons (.lend 9) .nil))) .nil))) .nil)))) .nil))
theorem lw_6t (gl : Nat → Option D) (call : Nat → List D → R D) (kk : Bool) (X : List D) (ok : Nat → Bool) (o : ∀ i, 1 ≤ i → ok i = true) (mm : Nat) (great : Int) (ct : Int) (C J J1 T M q x y : D) (nJ : J.isNo = false) (nC : C.isNo = false) (iT : T.imm = true) (iM : M.imm = true) (W : List D) (hW : D.immL W = true) (hl : W.length ≤ 100)
    (c1 : call 17 [J, .int (mm : Int), .int great] = .ok T [J1, .int (mm : Int), .int great]) (c2 : call 15 [C, T] = .ok M [C, T]) :
    (optO (stT ok (.nm 7) q [.rol kk X, J, .int (mm : Int), .int great, C, .int ct, .tup W, x, .no, y]) fun ρ2 => evSs gl call fuel bLw ok ρ2) = .nx [.rol kk X, J1, .int (mm : Int), .int great, C, .int ct, .tup (W ++ [.tup [T, M]]), q, .no, T] := by
  have o6 := o 6 (by decide)
  have o7 := o 7 (by decide)
  have o9 := o 9 (by decide)
  have nT := imm_no iT
  have ad : Op2.run .add (.tup W) (.tup [.tup [T, M]]) = some (.tup (W ++ [.tup [T, M]])) := by rw [o_addT, if_pos ⟨small (by simp; omega), hW, by simp [iT, iM]⟩]
  have hn : needs (D.tup W) (E.var 6) false = true := needs_i hW
  unfold bLw
  simp [o6, o7, o9, nJ, nC, iT, nT, iM, c1, c2, ad, hW, hn]
theorem lw_6 (gl : Nat → Option D) (call : Nat → List D → R D) (kk : Bool) (X : List D) (ok : Nat → Bool) (o : ∀ i, 1 ≤ i → ok i = true) (mm : Nat) (great : Int) (cs : List (List Int)) (cn : Nat) (hcn : cn ≤ 20) (j : Jar) (hj : j.Ok) (H17 : ∀ j : Jar, j.Ok → ∃ (ts : List (Option Int)) (j' : Jar), ts.length = mm ∧ (∀ v, some v ∈ ts → 0 ≤ v) ∧ j'.Ok ∧ call 17 [j.d, .int (mm : Int), .int great] = .ok (tO ts) [j'.d, .int (mm : Int), .int great]) (H15 : ∀ ts : List (Option Int), ts.length = mm → (∀ v, some v ∈ ts → 0 ≤ v) → call 15 [.tup (cs.map tD), tO ts] = .ok (oD (minI (times cs ts))) [.tup (cs.map tD), tO ts]) :
    ∃ (ws : List Wish) (j' : Jar) (x y : D), ws.length = cn ∧ Made mm cs ws ∧ j'.Ok ∧ evS gl call fuel lw6 ok [.rol kk X, j.d, .int (mm : Int), .int great, .tup (cs.map tD), .int (cn : Int), .tup [], .no, .no, .no] = .nx [.rol kk X, j'.d, .int (mm : Int), .int great, .tup (cs.map tD), .int (cn : Int), .tup (ws.map wD), x, .no, y] := by
  obtain ⟨ρ', e1, ws, j', x, y, rfl, p1, p2, p3⟩ := forL_inv (turn := fun dd ρ' => optO (stT ok (.nm 7) dd ρ') fun ρ2 => evSs gl call fuel bLw ok ρ2)
    (fun i ρ => ∃ (ws : List Wish) (j' : Jar) (x y : D), ρ = [.rol kk X, j'.d, .int (mm : Int), .int great, .tup (cs.map tD), .int (cn : Int), .tup (ws.map wD), x, .no, y] ∧ ws.length = i ∧ Made mm cs ws ∧ j'.Ok) (rngL 0 (cn : Int)) [.rol kk X, j.d, .int (mm : Int), .int great, .tup (cs.map tD), .int (cn : Int), .tup [], .no, .no, .no] 0 ⟨[], j, _, _, rfl, rfl, ⟨fun _ m => (nomatch m), fun _ m => (nomatch m)⟩, hj⟩ (fun k q ρ hk hp => by
      obtain ⟨ws, j1, x, y, rfl, p1, p2, p3⟩ := hp
      have hkm : k < cn := by
        have := (List.getElem?_eq_some_iff.mp hk).1
        rw [rngL_0] at this
        simpa using this
      obtain ⟨ts, j2, t1, t2, t3, t4⟩ := H17 j1 p3
      have c2 := H15 ts t1 t2
      have := lw_6t gl call kk X ok o mm great (cn : Int) (.tup (cs.map tD)) j1.d j2.d (tO ts) (oD (minI (times cs ts))) q x y rfl rfl (immL_oD _) (oD_imm _) (ws.map wD) (immL_wD ws) (by simp; omega) t4 c2
      refine ⟨_, .inl this, ws ++ [(ts, minI (times cs ts))], j2, q, tO ts, ?_, by simp; omega, ⟨fun w m => ?_, fun w m => ?_⟩, t3⟩
      · rw [List.map_append]; rfl
      · rcases List.mem_append.mp m with m | m
        · exact p2.row w m
        · rw [List.mem_singleton.mp m]; exact ⟨t1, t2, fun t e => due_pos t2 e⟩
      · rcases List.mem_append.mp m with m | m
        · exact p2.due w m
        · rw [List.mem_singleton.mp m])
  have hl : (rngL 0 (cn : Int)).length = cn := by rw [rngL_0]; simp
  rw [hl, Nat.zero_add] at p1
  refine ⟨ws, j', x, y, p1, p2, p3, ?_⟩
  have hI : evI gl call (.rng1 (.var 5)) [.rol kk X, j.d, .int (mm : Int), .int great, .tup (cs.map tD), .int (cn : Int), .tup [], .no, .no, .no] = .ok (rngL 0 (cn : Int), none) [.rol kk X, j.d, .int (mm : Int), .int great, .tup (cs.map tD), .int (cn : Int), .tup [], .no, .no, .no] := by
    simp [rngOk_of (i := (cn : Int)) (by omega) (by omega), fits_of (n := cn) (by omega)]
  unfold lw6
  rw [u_loop, hI]
  simp only [e_o_ok, okBut_none]
  unfold bLw at e1
  rw [e1, thaw_nx]
theorem lw_7 (gl : Nat → Option D) (call : Nat → List D → R D) (kk : Bool) (X : List D) (ok : Nat → Bool) (o : ∀ i, 1 ≤ i → ok i = true) (mm : Nat) (great : Int) (J C C5 x y : D) (ws : List Wish) (H18 : ∀ w ∈ ws, call 18 [tO w.1, oD w.2] = .ok (.bl true) [tO w.1, oD w.2]) : ∃ z, evS gl call fuel lw7 ok [.rol kk X, J, .int (mm : Int), .int great, C, C5, .tup (ws.map wD), x, .no, y] = .nx [.rol kk X, J, .int (mm : Int), .int great, C, C5, .tup (ws.map wD), x, z, y] := by
  have o8 := o 8 (by decide)
  have him := immL_wD ws
  obtain ⟨z, hz, _⟩ := forL_fj (turn := fun dd ρ' => optO (stT ok (.nm 8) dd ρ') fun ρ2 => evSs gl call fuel (.cons (.ite (.not (.call 18 (.cons (.idx (.var 8) (.int 0)) (.cons (.idx (.var 8) (.int 1)) .nil)))) (.cons (.ret (.bl false)) .nil) .nil) .nil) ok ρ2)
    (fun (_ : Unit) (z : D) => [.rol kk X, J, .int (mm : Int), .int great, C, C5, .tup (ws.map wD), x, z, y]) (fun (w : Wish) s => s) (fun _ _ => True) (fun _ => wD) ws 0 () .no trivial (fun k w s z hk _ => by
      have mw := List.mem_of_getElem? hk
      have c := H18 w mw
      have i0 : D.item (wD w) (.int 0) = some (tO w.1) := rfl
      have i1 : D.item (wD w) (.int 1) = some (oD w.2) := rfl
      have ii := wD_imm w
      have nw : (wD w).isNo = false := rfl
      have it : (tO w.1).imm = true := immL_oD w.1
      have id := oD_imm w.2
      refine ⟨⟨wD w, .inl ?_⟩, trivial⟩
      generalize ws.map wD = WW at *
      generalize wD w = Y at *
      generalize tO w.1 = T at *
      generalize oD w.2 = U at *
      simp [o8, i0, i1, ii, nw, it, id, c])
  rw [encL_map] at hz
  refine ⟨z, ?_⟩
  have hI : evI gl call (.froz 6) [.rol kk X, J, .int (mm : Int), .int great, C, C5, .tup (ws.map wD), x, .no, y] = .ok (ws.map wD, none) [.rol kk X, J, .int (mm : Int), .int great, C, C5, .tup (ws.map wD), x, .no, y] := by simp [items, D.still, him]
  unfold lw7
  rw [u_loop, hI]
  simp only [e_o_ok, okBut_none]
  rw [hz, thaw_nx]
theorem lw_8 (gl : Nat → Option D) (call : Nat → List D → R D) (kk : Bool) (X : List D) (ok : Nat → Bool) (o : ∀ i, 1 ≤ i → ok i = true) (mm : Nat) (great : Int) (J0 J1 J2 J3 C C5 W x y z : D) (n0 : J0.isNo = false) (n1 : J1.isNo = false) (n2 : J2.isNo = false) (iC : C.imm = true) (iW : W.imm = true) (c1 : call 19 [J0, .int (mm : Int), .int great] = .ok (.bl true) [J1, .int (mm : Int), .int great]) (c2 : call 21 [J1, C, W, .int great] = .ok (.bl true) [J2, C, W, .int great])
    (c3 : call 23 [J2, .int (mm : Int), W] = .ok (.bl true) [J3, .int (mm : Int), W]) : evSs gl call fuel (.cons lw8 (.cons lw9 .nil)) ok [.rol kk X, J0, .int (mm : Int), .int great, C, C5, W, x, z, y] = .rt (.bl true) [.rol kk X, J3, .int (mm : Int), .int great, C, C5, W, x, z, y] := by
  have nC := imm_no iC
  have nW := imm_no iW
  unfold lw8 lw9
  simp [n0, n1, n2, nC, nW, c1, c2, c3]
theorem law : ∀ (k : Bool) (ns : List Int), ns.length ≤ 63 → ∃ ds, Ev.run pg fuel 60 24 [.rol k (ns.map .int)] = .ok (.bl true) ds := by
  intro k ns hns
  show ∃ ds, Ev.run pg fuel (59 + 1) 24 [.rol k (ns.map .int)] = .ok (.bl true) ds
  have H11 : Dips (run pg fuel 59) := r_dip 58
  obtain ⟨j0, k0, e0⟩ := r_bowl 58 k ns hns
  have o : ∀ i, 1 ≤ i → okP [.rol k (ns.map .int)] i = true := fun i hi => by unfold okP; rw [List.getElem?_eq_none (by simpa using hi)]
  rw [run_eq (df := d_law) rfl rfl (by decide)]
  show ∃ ds, (evSs _ (run pg fuel 59) fuel c_law (okP [.rol k (ns.map .int)]) [.rol k (ns.map .int), .no, .no, .no, .no, .no, .no, .no, .no, .no]).fin [.rol k (ns.map .int)] = _
  rw [lw_eq, e_cons, lw_0 _ _ k (ns.map .int) _ o j0.d (by exact e0), e_nx]
  obtain ⟨v1, j1, a1, a2, a3, a4⟩ := H11 j0 6 k0 (by decide) (by decide)
  obtain ⟨x1, m1, hx1⟩ := tab (xs := [2, 3, 1, 4, 2, 6]) a1 (by simpa using a2)
  rw [e_cons, lw_1 _ _ k (ns.map .int) _ o .no .no .no j0.d j1.d v1 x1 rfl (by exact a4) hx1, e_nx]
  obtain ⟨mm, rfl⟩ : ∃ mm : Nat, x1 = (mm : Int) := ⟨x1.toNat, by simp at m1; omega⟩
  have lo : 1 ≤ mm := by simp at m1; omega
  have hi : mm ≤ 6 := by simp at m1; omega
  have hi100 : mm ≤ 100 := by omega
  obtain ⟨v2, j2, b1, b2, b3, b4⟩ := H11 j1 5 a3 (by decide) (by decide)
  obtain ⟨great, m2, hx2⟩ := tab (xs := [4, 10, 3, 1000, 49000]) b1 (by simpa using b2)
  have g0 : 0 < great := by simp at m2; omega
  have g1 : great < 1073741824 := by simp at m2; omega
  rw [e_cons, lw_2 _ _ k (ns.map .int) _ o (.int (mm : Int)) .no .no j1.d j2.d v2 great rfl (by exact b4) hx2, e_nx]
  obtain ⟨cs, j3, cne, cl, fcs, k3, e3⟩ := r_law_list 57 j2 b3 mm lo hi100 great g0 g1
  rw [e_cons, lw_3 _ _ k (ns.map .int) _ o mm great j2.d j3.d (.tup (cs.map tD)) rfl (by exact e3), e_nx]
  obtain ⟨v4, j4, c1, c2, c3, c4⟩ := H11 j3 13 k3 (by decide) (by decide)
  obtain ⟨ct, m4, hx4⟩ := tab (xs := [3, 2, 4, 1, 5, 3, 2, 4, 6, 3, 2, 4, 20]) c1 (by simpa using c2)
  rw [e_cons, lw_4 _ _ k (ns.map .int) _ o (.int (mm : Int)) (.int great) (.tup (cs.map tD)) j3.d j4.d v4 ct rfl (by exact c4) hx4, e_nx]
  obtain ⟨cn, rfl⟩ : ∃ cn : Nat, ct = (cn : Int) := ⟨ct.toNat, by simp at m4; omega⟩
  have hcn : cn ≤ 20 := by simp at m4; omega
  have hcn0 : 0 < cn := by simp at m4; omega
  have s5 : evS (fun g => pg.glb[g]?) (run pg fuel 59) fuel lw5 (okP [.rol k (ns.map .int)]) [.rol k (ns.map .int), j4.d, .int (mm : Int), .int great, .tup (cs.map tD), .int (cn : Int), .no, .no, .no, .no] = .nx [.rol k (ns.map .int), j4.d, .int (mm : Int), .int great, .tup (cs.map tD), .int (cn : Int), .tup [], .no, .no, .no] := by
    unfold lw5; simp [o 6 (by decide)]
  rw [e_cons, s5, e_nx]
  obtain ⟨ws, j6, x6, y6, wl, hm, k6, e6⟩ := lw_6 (fun g => pg.glb[g]?) (run pg fuel 59) k (ns.map .int) _ o mm great cs cn hcn j4 c3 (fun j hj => r_law_times 57 j hj mm hi100 great g0 g1) (fun ts ht hp => by
    have := r_law_time 58 cs ts (fun c m => by rw [ht]; exact (fcs c m).1) (by omega)
    rw [bestL_eq (by rw [ht]; exact fcs) hp] at this
    exact this)
  rw [e_cons, e6, e_nx]
  obtain ⟨z7, e7⟩ := lw_7 (fun g => pg.glb[g]?) (run pg fuel 59) k (ns.map .int) _ o mm great j6.d (.tup (cs.map tD)) (.int (cn : Int)) x6 y6 ws (fun w mw => by
    have h := (hm.row w mw).1
    exact r_asked 57 w.1 (by intro e; rw [e] at h; simp at h; omega) (by omega) w.2)
  rw [e_cons, e7, e_nx]
  obtain ⟨j7, k7, e8⟩ := r_own_asked 56 j6 k6 mm lo hi100 great g0 g1
  obtain ⟨j8, k8, e9⟩ := r_meets_asked 55 mm lo hi100 cs cne cl fcs ws hm (by omega) (by omega) j7 k7 great g0 g1
  obtain ⟨j9, e10⟩ := r_kinds 53 mm lo hi ws hm.row (by omega) (by omega) j8 k8
  have key := lw_8 (fun g => pg.glb[g]?) (run pg fuel 59) k (ns.map .int) (okP [.rol k (ns.map .int)]) o mm great j6.d j7.d j8.d j9.d (.tup (cs.map tD)) (.int (cn : Int)) (.tup (ws.map wD)) x6 y6 z7 rfl rfl rfl (by exact immL_tD _) (by exact immL_wD _) (by exact e8) (by exact e9) (by exact e10)
  rw [key]
  exact ⟨_, rfl⟩
end K
end

set_option Elab.async false
set_option linter.all false
open PySem PySem.W PyProof.Rows
set_option maxHeartbeats 0 in
set_option maxRecDepth 100000 in
open_top head for PySem.Challenge.rw_firstandlast_k19_own_causes
set_option maxRecDepth 100000 in
set_option maxHeartbeats 0 in
theorem PySem.Challenge.cw_firstandlast_k19_own_causes_holds : PySem.Challenge.rw_firstandlast_k19_own_causes.Holds := by
  refine head ?_
  refine Ev.law_walk (x := (PySem.Str.ofString "script")) K.T K.fuel 60 24 63 rfl (by decide) rfl ⟨rfl, by decide, by decide⟩ rfl rfl (fun w h Y => PySem.W.kIn_of Y) ?F K.law
  case F =>
    intro w mg fa h KX G hmg
    refine Ev.facts_mk KX G ?df K.bf K.kf K.sf K.cf ?tops ?gls
    case df =>
      refine' Ev.each_0 (Ev.each_cons ?d0 (Ev.each_cons ?d1 (Ev.each_cons ?d2 (Ev.each_cons ?d3 (Ev.each_cons ?d4 (Ev.each_cons ?d5 (Ev.each_cons ?d6 (Ev.each_cons ?d7 (Ev.each_cons ?d8 (Ev.each_cons ?d9 (Ev.each_cons ?d10 (Ev.each_cons ?d11 (Ev.each_cons ?d12 (Ev.each_cons ?d13 (Ev.each_cons ?d14 (Ev.each_cons ?d15 (Ev.each_cons ?d16 (Ev.each_cons ?d17 (Ev.each_cons ?d18 (Ev.each_cons ?d19 (Ev.each_cons ?d20 (Ev.each_cons ?d21 (Ev.each_cons ?d22 (Ev.each_cons ?d23 (Ev.each_cons ?d24 Ev.each_nil)))))))))))))))))))))))))
      case d0 =>
        refine' Ev.DefFact.mk ?a ?l ?c ?k
        (case a => k_is)
        (case l => k_is)
        (case c => k_is)
        (case k => k_is)
      case d1 =>
        refine' Ev.DefFact.mk ?a ?l ?c ?k
        (case a => k_is)
        (case l => k_is)
        (case c => k_is)
        (case k => k_is)
      case d2 =>
        refine' Ev.DefFact.mk ?a ?l ?c ?k
        (case a => k_is)
        (case l => k_is)
        (case c => k_is)
        (case k => k_is)
      case d3 =>
        refine' Ev.DefFact.mk ?a ?l ?c ?k
        (case a => k_is)
        (case l => k_is)
        (case c => k_is)
        (case k => k_is)
      case d4 =>
        refine' Ev.DefFact.mk ?a ?l ?c ?k
        (case a => k_is)
        (case l => k_is)
        (case c => k_is)
        (case k => k_is)
      case d5 =>
        refine' Ev.DefFact.mk ?a ?l ?c ?k
        (case a => k_is)
        (case l => k_is)
        (case c => k_is)
        (case k => k_is)
      case d6 =>
        refine' Ev.DefFact.mk ?a ?l ?c ?k
        (case a => k_is)
        (case l => k_is)
        (case c => k_is)
        (case k => k_is)
      case d7 =>
        refine' Ev.DefFact.mk ?a ?l ?c ?k
        (case a => k_is)
        (case l => k_is)
        (case c => k_is)
        (case k => k_is)
      case d8 =>
        refine' Ev.DefFact.mk ?a ?l ?c ?k
        (case a => k_is)
        (case l => k_is)
        (case c => k_is)
        (case k => k_is)
      case d9 =>
        refine' Ev.DefFact.mk ?a ?l ?c ?k
        (case a => k_is)
        (case l => k_is)
        (case c => k_is)
        (case k => k_is)
      case d10 =>
        refine' Ev.DefFact.mk ?a ?l ?c ?k
        (case a => k_is)
        (case l => k_is)
        (case c => k_is)
        (case k => k_is)
      case d11 =>
        refine' Ev.DefFact.mk ?a ?l ?c ?k
        (case a => k_is)
        (case l => k_is)
        (case c => k_is)
        (case k => k_is)
      case d12 =>
        refine' Ev.DefFact.mk ?a ?l ?c ?k
        (case a => k_is)
        (case l => k_is)
        (case c => k_is)
        (case k => k_is)
      case d13 =>
        refine' Ev.DefFact.mk ?a ?l ?c ?k
        (case a => k_is)
        (case l => k_is)
        (case c => k_is)
        (case k => k_is)
      case d14 =>
        refine' Ev.DefFact.mk ?a ?l ?c ?k
        (case a => k_is)
        (case l => k_is)
        (case c => k_is)
        (case k => k_is)
      case d15 =>
        refine' Ev.DefFact.mk ?a ?l ?c ?k
        (case a => k_is)
        (case l => k_is)
        (case c => k_is)
        (case k => k_is)
      case d16 =>
        refine' Ev.DefFact.mk ?a ?l ?c ?k
        (case a => k_is)
        (case l => k_is)
        (case c => k_is)
        (case k => k_is)
      case d17 =>
        refine' Ev.DefFact.mk ?a ?l ?c ?k
        (case a => k_is)
        (case l => k_is)
        (case c => k_is)
        (case k => k_is)
      case d18 =>
        refine' Ev.DefFact.mk ?a ?l ?c ?k
        (case a => k_is)
        (case l => k_is)
        (case c => k_is)
        (case k => k_is)
      case d19 =>
        refine' Ev.DefFact.mk ?a ?l ?c ?k
        (case a => k_is)
        (case l => k_is)
        (case c => k_is)
        (case k => k_is)
      case d20 =>
        refine' Ev.DefFact.mk ?a ?l ?c ?k
        (case a => k_is)
        (case l => k_is)
        (case c => k_is)
        (case k => k_is)
      case d21 =>
        refine' Ev.DefFact.mk ?a ?l ?c ?k
        (case a => k_is)
        (case l => k_is)
        (case c => k_is)
        (case k => k_is)
      case d22 =>
        refine' Ev.DefFact.mk ?a ?l ?c ?k
        (case a => k_is)
        (case l => k_is)
        (case c => k_is)
        (case k => k_is)
      case d23 =>
        refine' Ev.DefFact.mk ?a ?l ?c ?k
        (case a => k_is)
        (case l => k_is)
        (case c => k_is)
        (case k => k_is)
      case d24 =>
        refine' Ev.DefFact.mk ?a ?l ?c ?k
        (case a => k_is)
        (case l => k_is)
        (case c => k_is)
        (case k => k_is)
    case tops =>
      refine' (List.forall_mem_cons.mpr ⟨?t0, (List.forall_mem_cons.mpr ⟨?t1, (List.forall_mem_cons.mpr ⟨?t2, (List.forall_mem_cons.mpr ⟨?t3, (List.forall_mem_cons.mpr ⟨?t4, (List.forall_mem_cons.mpr ⟨?t5, (List.forall_mem_cons.mpr ⟨?t6, (List.forall_mem_cons.mpr ⟨?t7, (List.forall_mem_cons.mpr ⟨?t8, (List.forall_mem_cons.mpr ⟨?t9, (List.forall_mem_cons.mpr ⟨?t10, (List.forall_mem_cons.mpr ⟨?t11, (fun _ h => absurd h List.not_mem_nil)⟩)⟩)⟩)⟩)⟩)⟩)⟩)⟩)⟩)⟩)⟩)⟩)
      case t0 => k_is
      case t1 => k_is
      case t2 => k_is
      case t3 => k_is
      case t4 => k_is
      case t5 => k_is
      case t6 => k_is
      case t7 => k_is
      case t8 => k_is
      case t9 => k_is
      case t10 => k_is
      case t11 => k_is
    case gls =>
      refine' Ev.each_0 Ev.each_nil

