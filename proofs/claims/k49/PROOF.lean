import PyProof.Rows.All
import Wide.All
import OpenK.AllK
import Wide.FinOn
import PyProof.ReprReads
import HandS.ForMost
import HandS.TupAny
import HandS.TupMul
import HandS.IsInst
import HandS.Conv
import HandS.Style
import HandS.Wide
import HandS.Zip
import KE.DataEq
import HandS.Defaults
import HandS.Ends
import HandS.HeadEnd
import HandS.Codes
import HandS.Head0
import HandS.Head1
import HandS.Head2
import HandS.HeadHook1
import HandS.HeadHook2
import PyProof.ReprLen
import PySem.Challenge.RW_deskgrove_k49_whole_commits_with_falls
set_option autoImplicit false
set_option linter.all false
/-! DkSem: a small language of plain data (lists by value), its values, terms and evaluator. Own work. -/
namespace Dk
open PySem

inductive D where
  | non | bl (b : Bool) | int (i : Int) | str (x : Str)
  | tup (ds : List D) | lst (ds : List D)
  | rng (lo hi : Int)
  | ref (n : Nat)
  | scr (ds : List D)

abbrev Bx := List D
abbrev Env := List (Option D)
/-- the longest list, tuple or text -/
def SZ : Nat := 16777216

/-! ### values as the library's data -/
mutual
def D.toPy : D → PyData
  | .non => .none
  | .bl b => .bool b
  | .int i => .int i
  | .str x => .str x
  | .tup ds => .tuple (D.toPyL ds)
  | .lst ds => .list (D.toPyL ds)
  | .rng _ _ => .none
  | .ref _ => .none
  | .scr _ => .none
def D.toPyL : List D → List PyData
  | [] => []
  | d :: ds => D.toPy d :: D.toPyL ds
end
mutual
/-- plain data, at most n deep -/
def D.fit : Nat → D → Bool
  | _, .non => true
  | _, .bl _ => true
  | _, .int _ => true
  | _, .str _ => true
  | 0, .tup _ => false
  | 0, .lst _ => false
  | n + 1, .tup ds => D.fitL n ds
  | n + 1, .lst ds => D.fitL n ds
  | _, .rng _ _ => false
  | _, .ref _ => false
  | _, .scr _ => false
def D.fitL : Nat → List D → Bool
  | _, [] => true
  | n, d :: ds => D.fit n d && D.fitL n ds
end
mutual
/-- == -/
def D.eqv : D → D → Bool
  | .non, b => match b with | .non => true | _ => false
  | .bl a, b => match b with | .bl c => a == c | .int j => (if a then 1 else 0) == j | _ => false
  | .int i, b => match b with | .int j => i == j | .bl c => i == (if c then 1 else 0) | _ => false
  | .str x, b => match b with | .str y => x == y | _ => false
  | .tup xs, b => match b with | .tup ys => D.eqvL xs ys | _ => false
  | .lst xs, b => match b with | .lst ys => D.eqvL xs ys | _ => false
  | .rng _ _, _ => false
  | .ref _, _ => false
  | .scr _, _ => false
def D.eqvL : List D → List D → Bool
  | [], b => match b with | [] => true | _ :: _ => false
  | x :: xs, b => match b with | y :: ys => D.eqv x y && D.eqvL xs ys | [] => false
end
/-- deepest data that is compared -/
def DEEP : Nat := 60
def eqD (a b : D) : Option Bool := if a.fit DEEP = true ∧ b.fit DEEP = true then some (a.eqv b) else none

/-! ### operators -/
inductive Bop | add | sub | mul | fdiv | mod | pow
inductive Cop | eq | ne | lt | le | gt | ge | is_ | isNot
inductive Ty | int | bool | tuple | str
inductive Blt | len | abs | max2 | all | tuple | list | int | rng1 | repr

def mulOk (i j : Int) : Prop := (-(2 ^ 64) < i ∧ i < 2 ^ 64) ∨ (-(2 ^ 64) < j ∧ j < 2 ^ 64)
instance (i j : Int) : Decidable (mulOk i j) := by unfold mulOk; infer_instance

def binD : Bop → D → D → Option D
  | .add, .int i, .int j => some (.int (i + j))
  | .add, .tup a, .tup b => if a.length + b.length ≤ SZ then some (.tup (a ++ b)) else none
  | .add, .lst a, .lst b => if a.length + b.length ≤ SZ then some (.lst (a ++ b)) else none
  | .sub, .int i, .int j => some (.int (i - j))
  | .mul, .int i, .int j => if mulOk i j then some (.int (i * j)) else none
  | .mul, .tup a, .int k => if a ≠ [] ∧ k ≤ 1000 ∧ -1000000 ≤ k ∧ a.length ≤ 1000 then some (.tup (List.replicate k.toNat a).flatten) else none
  | .fdiv, .int i, .int j => if 0 < j ∧ j < 1073741824 then some (.int (i / j)) else none
  | .mod, .int i, .int j => if 0 < j then some (.int (i % j)) else none
  | .pow, .int i, .int j => if 0 ≤ j ∧ j ≤ 1000000 ∧ i.natAbs < 2 ^ 64 then some (.int (i ^ j.toNat)) else none
  | _, _, _ => none

def D.isNon : D → Bool
  | .non => true
  | _ => false
def cmpD : Cop → D → D → Option Bool
  | .eq, a, b => eqD a b
  | .ne, a, b => (eqD a b).map (!·)
  | .lt, .int i, .int j => some (decide (i < j))
  | .le, .int i, .int j => some (decide (i ≤ j))
  | .gt, .int i, .int j => some (decide (j < i))
  | .ge, .int i, .int j => some (decide (j ≤ i))
  | .is_, a, .non => some a.isNon
  | .isNot, a, .non => some (!a.isNon)
  | .is_, .bl a, .bl b => some (decide (a = b))
  | .isNot, .bl a, .bl b => some (!decide (a = b))
  | _, _, _ => none

/-- the place of an index, from the end if it is below nought -/
def ixD (n : Nat) (i : Int) : Option Nat :=
  if 0 ≤ i then (if i < n then some i.toNat else none) else if -(n : Int) ≤ i then some (i + n).toNat else none
def itemD (bx : Bx) : D → D → Option D
  | .tup ds, .int i => (ixD ds.length i).bind fun j => ds[j]?
  | .lst ds, .int i => (ixD ds.length i).bind fun j => ds[j]?
  | .ref n, .int i => match bx[n]? with
    | some (.lst ds) => (ixD ds.length i).bind fun j => ds[j]?
    | _ => none
  | _, _ => none
/-- a slice's bound within a length -/
def cutIx (n : Nat) (dflt : Nat) : Option Int → Nat
  | none => dflt
  | some i => if i < 0 then (i + (n : Int)).toNat else min i.toNat n
def cutD (ds : List D) (lo hi : Option Int) : List D :=
  (ds.drop (cutIx ds.length 0 lo)).take (cutIx ds.length ds.length hi - cutIx ds.length 0 lo)
def sliceD : D → Option Int → Option Int → Option D
  | .tup ds, lo, hi => some (.tup (cutD ds lo hi))
  | .lst ds, lo, hi => some (.lst (cutD ds lo hi))
  | _, _, _ => none

def boolsD : List D → Option (List Bool)
  | [] => some []
  | .bl b :: ds => match boolsD ds with | some bs => some (b :: bs) | none => none
  | _ :: _ => none
def allB (ds : List D) : Option Bool := match boolsD ds with | some bs => some (bs.all id) | none => none

def isiD : Ty → D → Option Bool
  | .int, .int _ => some true
  | .int, .bl _ => some true
  | .bool, .bl _ => some true
  | .tuple, .tup _ => some true
  | .str, .str _ => some true
  | _, .ref _ => none
  | _, .rng _ _ => none
  | _, .scr _ => none
  | _, _ => some false

def bltD : Blt → List D → Option D
  | .len, [.tup ds] => some (.int ds.length)
  | .len, [.lst ds] => some (.int ds.length)
  | .abs, [.int i] => some (.int (if i < 0 then -i else i))
  | .max2, [.int i, .int j] => some (.int (if j > i then j else i))
  | .all, [.lst ds] => (allB ds).map .bl
  | .tuple, [.lst ds] => some (.tup ds)
  | .list, [.lst ds] => some (.lst ds)
  | .list, [.tup ds] => some (.lst ds)
  | .list, [.scr ds] => some (.lst ds)
  | .int, [.int i] => some (.int i)
  | .rng1, [.int i] => if -1000000000 ≤ i ∧ i ≤ 1000000000 then some (.rng 0 i) else none
  | .repr, [d] => if d.fit DEEP = true ∧ d.toPy.showable = true ∧ d.toPy.shown.length ≤ SZ then some (.str d.toPy.shown) else none
  | _, _ => none

/-- lo, lo + 1, .. -/
def rangeD (lo : Int) : Nat → List D
  | 0 => []
  | n + 1 => .int lo :: rangeD (lo + 1) n
def enumD : Nat → List D → List D
  | _, [] => []
  | n, d :: ds => .tup [.int n, d] :: enumD (n + 1) ds
/-- what a walk over a value meets -/
def itemsD : D → Option (List D)
  | .tup ds => some ds
  | .lst ds => some ds
  | .rng lo hi => if -1000000000 ≤ lo ∧ lo ≤ 1000000000 ∧ -1000000000 ≤ hi ∧ hi ≤ 1000000000 ∧ (hi - lo).toNat ≤ SZ then some (rangeD lo (hi - lo).toNat) else none
  | _ => none

/-! ### terms -/
inductive T where
  | nam (i : Nat) | tup (ts : T) | nil | cons (t ts : T)
inductive E where
  | nil | cons (e es : E)
  | var (i : Nat) | con (c : D) | glo (g : Nat)
  | tup (es : E) | lst (es : E)
  | bin (op : Bop) (a b : E) | neg (a : E)
  | cmp (op : Cop) (a b : E) | chain (op op' : Cop) (a b c : E)
  | and (a b : E) | or (a b : E) | not (a : E)
  | ite (c a b : E)
  | idx (a i : E) | slc (a lo hi : E)
  | isi (a : E) (t : Ty)
  | call (f : Nat) (es : E) | blt (f : Blt) (es : E)
  | comp (t : T) (it c e : E) (own : List Nat)
  -- ahead of a walk alone
  | ival (a : E) | irng (a : E) | irng2 (a b : E) | ienum (a : E)
inductive S where
  | nil | seq (s ss : S)
  | asg (t : T) (e : E) | par (is : List (Nat × Bool)) (es : E)
  | own (i : Nat) (e : E) | box (i : Nat) (e : E)
  | app (i : Nat) (e : E)
  | setB (o i e : E)
  | ite (c : E) (a b : S)
  | for_ (t : T) (it : E) (b : S)
  | while_ (c : E) (b : S)
  | ret (e : E)
  | retO (i : Nat)
  | exp (e : E)
  | raise
inductive Flow where
  | nx | ret (d : D) | bk | ct

mutual
def bindT : T → D → Env → Option Env
  | .nam i, d, ρ => some (ρ.set i (some d))
  | .tup ts, .tup ds, ρ => bindTs ts ds ρ
  | _, _, _ => none
def bindTs : T → List D → Env → Option Env
  | .nil, [], ρ => some ρ
  | .cons t ts, d :: ds, ρ => match bindT t d ρ with
    | none => none
    | some ρ' => bindTs ts ds ρ'
  | _, _, _ => none
end

/-- a comprehension's turns -/
def compL (step : D → Bx → Option (Option D × Bx)) : List D → Bx → Option (List D × Bx)
  | [], bx => some ([], bx)
  | d :: ds, bx => match step d bx with
    | none => none
    | some (o, bx1) => match compL step ds bx1 with
      | none => none
      | some (r, bx2) => some ((match o with | some y => y :: r | none => r), bx2)
/-- a loop's turns -/
def forL (step : D → Env → Bx → Option (Flow × Env × Bx)) : List D → Env → Bx → Option (Flow × Env × Bx)
  | [], ρ, bx => some (.nx, ρ, bx)
  | d :: ds, ρ, bx => match step d ρ bx with
    | none => none
    | some (.nx, ρ1, bx1) => forL step ds ρ1 bx1
    | some (.ct, ρ1, bx1) => forL step ds ρ1 bx1
    | some (.bk, ρ1, bx1) => some (.nx, ρ1, bx1)
    | some (.ret d, ρ1, bx1) => some (.ret d, ρ1, bx1)
/-- the slots of a comprehension's own names forgotten -/
def wipeE (ρ : Env) : List Nat → Env
  | [] => ρ
  | v :: vs => (wipeE ρ vs).set v none
/-- a slice's part -/
def partD : Option D → Option (Option Int)
  | none => some none
  | some (.int i) => some (some i)
  | some _ => none

section
variable (F : Nat → List D → Bx → Option (D × Bx)) (G : Nat → Option D)
mutual
def evE : E → Env → Bx → Option (D × Bx)
  | .var i, ρ, bx => match ρ[i]? with | some (some d) => some (d, bx) | _ => none
  | .con c, _, bx => some (c, bx)
  | .glo g, _, bx => match G g with | some d => some (d, bx) | none => none
  | .tup es, ρ, bx => match evA es ρ bx with
    | some (ds, bx1) => if ds.length ≤ SZ then some (.tup ds, bx1) else none
    | none => none
  | .lst es, ρ, bx => match evA es ρ bx with
    | some (ds, bx1) => if ds.length ≤ SZ then some (.lst ds, bx1) else none
    | none => none
  | .bin op a b, ρ, bx => match evE a ρ bx with
    | none => none
    | some (x, bx1) => match evE b ρ bx1 with
      | none => none
      | some (y, bx2) => match binD op x y with | some z => some (z, bx2) | none => none
  | .neg a, ρ, bx => match evE a ρ bx with
    | some (.int i, bx1) => some (.int (-i), bx1)
    | _ => none
  | .cmp op a b, ρ, bx => match evE a ρ bx with
    | none => none
    | some (x, bx1) => match evE b ρ bx1 with
      | none => none
      | some (y, bx2) => match cmpD op x y with | some z => some (.bl z, bx2) | none => none
  | .chain op op' a b c, ρ, bx => match evE a ρ bx with
    | none => none
    | some (x, bx1) => match evE b ρ bx1 with
      | none => none
      | some (y, bx2) => match cmpD op x y with
        | none => none
        | some false => some (.bl false, bx2)
        | some true => match evE c ρ bx2 with
          | none => none
          | some (z, bx3) => match cmpD op' y z with | some r => some (.bl r, bx3) | none => none
  | .and a b, ρ, bx => match evE a ρ bx with
    | some (.bl true, bx1) => (match evE b ρ bx1 with | some (.bl r, bx2) => some (.bl r, bx2) | _ => none)
    | some (.bl false, bx1) => some (.bl false, bx1)
    | _ => none
  | .or a b, ρ, bx => match evE a ρ bx with
    | some (.bl false, bx1) => (match evE b ρ bx1 with | some (.bl r, bx2) => some (.bl r, bx2) | _ => none)
    | some (.bl true, bx1) => some (.bl true, bx1)
    | _ => none
  | .not a, ρ, bx => match evE a ρ bx with
    | some (.bl r, bx1) => some (.bl (!r), bx1)
    | _ => none
  | .ite c a b, ρ, bx => match evE c ρ bx with
    | some (.bl true, bx1) => evE a ρ bx1
    | some (.bl false, bx1) => evE b ρ bx1
    | _ => none
  | .idx a i, ρ, bx => match evE a ρ bx with
    | none => none
    | some (x, bx1) => match evE i ρ bx1 with
      | none => none
      | some (y, bx2) => match itemD bx2 x y with | some z => some (z, bx2) | none => none
  | .slc a lo hi, ρ, bx => match evE a ρ bx with
    | none => none
    | some (x, bx1) => match evO lo ρ bx1 with
      | none => none
      | some (l, bx2) => match evO hi ρ bx2 with
        | none => none
        | some (h, bx3) => match sliceD x l h with | some z => some (z, bx3) | none => none
  | .isi a t, ρ, bx => match evE a ρ bx with
    | some (x, bx1) => (match isiD t x with | some r => some (.bl r, bx1) | none => none)
    | none => none
  | .call f es, ρ, bx => match evA es ρ bx with
    | some (ds, bx1) => F f ds bx1
    | none => none
  | .blt f es, ρ, bx => match evA es ρ bx with
    | some (ds, bx1) => (match bltD f ds with | some z => some (z, bx1) | none => none)
    | none => none
  | .comp t it c e own, ρ, bx => match evI it ρ bx with
    | none => none
    | some (ds, bx1) => match compL (fun d bx => match bindT t d (wipeE ρ own) with
        | none => none
        | some ρ1 => match evC c ρ1 bx with
          | none => none
          | some (false, bx2) => some (none, bx2)
          | some (true, bx2) => match evE e ρ1 bx2 with
            | none => none
            | some (y, bx3) => some (some y, bx3)) ds bx1 with
      | none => none
      | some (r, bx2) => some (.lst r, bx2)
  | _, _, _ => none
def evA : E → Env → Bx → Option (List D × Bx)
  | .nil, _, bx => some ([], bx)
  | .cons e es, ρ, bx => match evE e ρ bx with
    | none => none
    | some (d, bx1) => match evA es ρ bx1 with
      | none => none
      | some (ds, bx2) => some (d :: ds, bx2)
  | _, _, _ => none
/-- what is walked -/
def evI : E → Env → Bx → Option (List D × Bx)
  | .irng a, ρ, bx => match evE a ρ bx with
    | some (.int j, bx1) => if j ≤ 16777216 ∧ -1000000000 ≤ j then some (rangeD 0 j.toNat, bx1) else none
    | _ => none
  | .irng2 a b, ρ, bx => match evE a ρ bx with
    | some (.int i, bx1) => (match evE b ρ bx1 with
      | some (.int j, bx2) => if -1000000000 ≤ i ∧ i ≤ 1000000000 ∧ -1000000000 ≤ j ∧ j ≤ 1000000000 ∧ (j - i).toNat ≤ SZ then some (rangeD i (j - i).toNat, bx2) else none
      | _ => none)
    | _ => none
  | .ienum a, ρ, bx => match evE a ρ bx with
    | some (.lst ds, bx1) => some (enumD 0 ds, bx1)
    | _ => none
  | .ival a, ρ, bx => match evE a ρ bx with
    | some (x, bx1) => (match itemsD x with | some ds => some (ds, bx1) | none => none)
    | none => none
  | _, _, _ => none
/-- a slice's part: nil is none -/
def evO : E → Env → Bx → Option (Option Int × Bx)
  | .nil, _, bx => some (none, bx)
  | .cons a .nil, ρ, bx => match evE a ρ bx with | some (.int i, bx1) => some (some i, bx1) | _ => none
  | _, _, _ => none
/-- a comprehension's test: nil is true -/
def evC : E → Env → Bx → Option (Bool × Bx)
  | .nil, _, bx => some (true, bx)
  | .cons c .nil, ρ, bx => match evE c ρ bx with | some (.bl r, bx1) => some (r, bx1) | _ => none
  | _, _, _ => none
end

/-- several slots get values; true: a slot that owns a list -/
def parD : List (Nat × Bool) → List D → Env → Option Env
  | [], [], ρ => some ρ
  | (i, false) :: is, d :: ds, ρ => parD is ds (ρ.set i (some d))
  | (i, true) :: is, .lst xs :: ds, ρ => parD is ds (ρ.set i (some (.lst xs)))
  | _, _, _ => none
/-- a while's turns -/
def whL (test : Env → Bx → Option (Bool × Bx)) (body : Env → Bx → Option (Flow × Env × Bx)) : Nat → Env → Bx → Option (Flow × Env × Bx)
  | 0, _, _ => none
  | n + 1, ρ, bx => match test ρ bx with
    | none => none
    | some (false, bx1) => some (.nx, ρ, bx1)
    | some (true, bx1) => match body ρ bx1 with
      | none => none
      | some (.nx, ρ1, bx2) => whL test body n ρ1 bx2
      | some (.ct, ρ1, bx2) => whL test body n ρ1 bx2
      | some (.bk, ρ1, bx2) => some (.nx, ρ1, bx2)
      | some (.ret d, ρ1, bx2) => some (.ret d, ρ1, bx2)
/-- turns of a while at most -/
def WF : Nat := 100000
def tstE (c : E) (ρ : Env) (bx : Bx) : Option (Bool × Bx) := match evE F G c ρ bx with
  | some (.bl r, bx1) => some (r, bx1)
  | _ => none

def exS : S → Env → Bx → Option (Flow × Env × Bx)
  | .nil, ρ, bx => some (.nx, ρ, bx)
  | .seq s ss, ρ, bx => match exS s ρ bx with
    | none => none
    | some (.nx, ρ1, bx1) => exS ss ρ1 bx1
    | some (f, ρ1, bx1) => some (f, ρ1, bx1)
  | .asg t e, ρ, bx => match evE F G e ρ bx with
    | none => none
    | some (d, bx1) => match bindT t d ρ with
      | none => none
      | some ρ1 => some (.nx, ρ1, bx1)
  | .par is es, ρ, bx => match evA F G es ρ bx with
    | none => none
    | some (ds, bx1) => match parD is ds ρ with
      | none => none
      | some ρ1 => some (.nx, ρ1, bx1)
  | .own i e, ρ, bx => match evE F G e ρ bx with
    | some (.lst ds, bx1) => some (.nx, ρ.set i (some (.lst ds)), bx1)
    | _ => none
  | .box i e, ρ, bx => match evE F G e ρ bx with
    | some (.lst ds, bx1) => some (.nx, ρ.set i (some (.ref bx1.length)), bx1 ++ [.lst ds])
    | _ => none
  | .app i e, ρ, bx => match ρ[i]? with
    | some (some (.lst ds)) => (match evE F G e ρ bx with
      | some (d, bx1) => if ds.length < SZ then some (.nx, ρ.set i (some (.lst (ds ++ [d]))), bx1) else none
      | none => none)
    | _ => none
  | .setB o i e, ρ, bx => match evE F G e ρ bx with
    | none => none
    | some (d, bx1) => match evE F G o ρ bx1 with
      | some (.ref n, bx2) => (match evE F G i ρ bx2 with
        | some (.int k, bx3) => (match bx3[n]? with
          | some (.lst ds) => (match ixD ds.length k with
            | some j => some (.nx, ρ, bx3.set n (.lst (ds.set j d)))
            | none => none)
          | _ => none)
        | _ => none)
      | _ => none
  | .ite c a b, ρ, bx => match tstE F G c ρ bx with
    | some (true, bx1) => exS a ρ bx1
    | some (false, bx1) => exS b ρ bx1
    | none => none
  | .for_ t it b, ρ, bx => match evI F G it ρ bx with
    | none => none
    | some (ds, bx1) => forL (fun d ρ bx => match bindT t d ρ with
      | none => none
      | some ρ1 => exS b ρ1 bx) ds ρ bx1
  | .while_ c b, ρ, bx => whL (tstE F G c) (fun ρ bx => exS b ρ bx) WF ρ bx
  | .ret e, ρ, bx => match evE F G e ρ bx with
    | none => none
    | some (d, bx1) => some (.ret d, ρ, bx1)
  | .retO i, ρ, bx => match ρ[i]? with
    | some (some d) => some (.ret d, ρ, bx)
    | _ => none
  | .exp e, ρ, bx => match evE F G e ρ bx with
    | none => none
    | some (_, bx1) => some (.nx, ρ, bx1)
  | .raise, _, _ => none
end

/-! ### programs -/
structure Def where
  par : Nat
  slots : Nat
  body : S
/-- what a def's body comes to -/
def fin : Option (Flow × Env × Bx) → Option (D × Bx)
  | some (.ret r, _, bx) => some (r, bx)
  | some (.nx, _, bx) => some (.non, bx)
  | _ => none
def runD (ds : List Def) (G : Nat → Option D) : Nat → Nat → List D → Bx → Option (D × Bx)
  | 0, _, _, _ => none
  | n + 1, f, as, bx => match ds[f]? with
    | none => none
    | some d => if as.length = d.par then fin (exS (runD ds G n) G d.body (as.map some ++ List.replicate (d.slots - d.par) none) bx) else none
end Dk

set_option autoImplicit false
set_option linter.all false
set_option Elab.async false
set_option maxRecDepth 100000
/-! DkRep: how plain data stands in the heap: what is frozen (Z), the mutable boxes (B), owned lists; the readings of terms. Own work. -/
namespace Dk
open PySem PySem.Spec PyProof.Rows L2
abbrev St := L2.St

theorem SZ_eq : SZ = sizeLine := by rw [sizeLine_eq]; rfl

mutual
def Rep (K : PySem.W.Frag) (Z : Hp) (B : List Addr) : D → V → Prop
  | .non, v => v = .non
  | .bl b, v => v = .bl b
  | .int i, v => v = .int i
  | .str x, v => v = .str x
  | .tup ds, v => ∃ a vs, v = .ref a ∧ ds.length ≤ SZ ∧ SqT K Z a vs ∧ RepL K Z B ds vs
  | .lst ds, v => ∃ a vs, v = .ref a ∧ ds.length ≤ SZ ∧ Z a = some (.lst vs) ∧ RepL K Z B ds vs
  | .rng lo hi, v => ∃ a, v = .ref a ∧ Z a = some (.rng lo hi)
  | .ref n, v => ∃ a, v = .ref a ∧ B[n]? = some a
  | .scr ds, v => ∃ a vs, v = .ref a ∧ ds.length ≤ SZ ∧ SqL K Z a vs ∧ RepL K Z B ds vs
def RepL (K : PySem.W.Frag) (Z : Hp) (B : List Addr) : List D → List V → Prop
  | [], vs => vs = []
  | d :: ds, vs => ∃ v r, vs = v :: r ∧ Rep K Z B d v ∧ RepL K Z B ds r
end

theorem SqL.up {K : PySem.W.Frag} {H H' : Hp} {a : Addr} {xs : List V} (e : Same H H') (h : SqL K H a xs) : SqL K H' a xs := e.seq h
theorem SqT.up {K : PySem.W.Frag} {H H' : Hp} {a : Addr} {xs : List V} (e : Same H H') (h : SqT K H a xs) : SqT K H' a xs := by
  rcases h with (h | ⟨o, h⟩) | h
  · exact .inl (.inl (e _ _ h))
  · exact .inl (.inr ⟨o, e _ _ h⟩)
  · exact .inr h

section
variable {K : PySem.W.Frag} {Z Z' : Hp} {B B' : List Addr}
mutual
theorem Rep.up (e : Same Z Z') (eb : ∀ (n : Nat) (a : Addr), B[n]? = some a → B'[n]? = some a) : ∀ {d : D} {v : V}, Rep K Z B d v → Rep K Z' B' d v
  | .non, _, h => h
  | .bl _, _, h => h
  | .int _, _, h => h
  | .str _, _, h => h
  | .tup _, _, ⟨a, vs, h1, hl, h2, h3⟩ => ⟨a, vs, h1, hl, SqT.up e h2, RepL.up e eb h3⟩
  | .lst _, _, ⟨a, vs, h1, hl, h2, h3⟩ => ⟨a, vs, h1, hl, e _ _ h2, RepL.up e eb h3⟩
  | .rng _ _, _, ⟨a, h1, h2⟩ => ⟨a, h1, e _ _ h2⟩
  | .ref _, _, ⟨a, h1, h2⟩ => ⟨a, h1, eb _ _ h2⟩
  | .scr _, _, ⟨a, vs, h1, hl, h2, h3⟩ => ⟨a, vs, h1, hl, SqL.up e h2, RepL.up e eb h3⟩
theorem RepL.up (e : Same Z Z') (eb : ∀ (n : Nat) (a : Addr), B[n]? = some a → B'[n]? = some a) : ∀ {ds : List D} {vs : List V}, RepL K Z B ds vs → RepL K Z' B' ds vs
  | [], _, h => h
  | _ :: _, _, ⟨v, r, h1, h2, h3⟩ => ⟨v, r, h1, Rep.up e eb h2, RepL.up e eb h3⟩
end
theorem RepL.length : ∀ {ds : List D} {vs : List V}, RepL K Z B ds vs → ds.length = vs.length
  | [], _, h => by rw [show _ = [] from h]; rfl
  | _ :: ds, _, ⟨v, r, h1, _, h3⟩ => by rw [h1, List.length_cons, List.length_cons, RepL.length h3]
theorem RepL.get : ∀ {ds : List D} {vs : List V} {i : Nat} {d : D}, RepL K Z B ds vs → ds[i]? = some d → ∃ v, vs[i]? = some v ∧ Rep K Z B d v
  | [], _, _, _, _, e => by simp at e
  | d :: ds, _, 0, _, ⟨v, r, h1, h2, _⟩, e => by
    simp at e
    subst e h1
    exact ⟨v, rfl, h2⟩
  | d :: ds, _, i + 1, _, ⟨v, r, h1, _, h3⟩, e => by
    subst h1
    exact RepL.get (i := i) h3 (by simpa using e)
theorem RepL.get' : ∀ {ds : List D} {vs : List V} {i : Nat} {v : V}, RepL K Z B ds vs → vs[i]? = some v → ∃ d, ds[i]? = some d ∧ Rep K Z B d v
  | [], _, _, _, h, e => by rw [show _ = [] from h] at e; simp at e
  | d :: ds, _, 0, _, ⟨v, r, h1, h2, _⟩, e => by
    subst h1
    simp at e
    subst e
    exact ⟨d, rfl, h2⟩
  | d :: ds, _, i + 1, _, ⟨v, r, h1, _, h3⟩, e => by
    subst h1
    exact RepL.get' (i := i) h3 (by simpa using e)
theorem RepL.append : ∀ {ds es : List D} {vs ws : List V}, RepL K Z B ds vs → RepL K Z B es ws → RepL K Z B (ds ++ es) (vs ++ ws)
  | [], _, _, _, h, g => by rw [show _ = [] from h]; exact g
  | _ :: _, _, _, _, ⟨v, r, h1, h2, h3⟩, g => by
    subst h1
    exact ⟨v, r ++ _, rfl, h2, RepL.append h3 g⟩
theorem RepL.one {d : D} {v : V} (h : Rep K Z B d v) : RepL K Z B [d] [v] := ⟨v, [], rfl, h, rfl⟩
theorem RepL.set : ∀ {ds : List D} {vs : List V} {d : D} {v : V} (i : Nat), RepL K Z B ds vs → Rep K Z B d v → RepL K Z B (ds.set i d) (vs.set i v)
  | [], _, _, _, _, h, _ => by rw [show _ = [] from h]; exact rfl
  | _ :: _, _, _, _, 0, ⟨_, r, h1, _, h3⟩, g => by
    subst h1
    exact ⟨_, r, rfl, g, h3⟩
  | _ :: _, _, _, _, i + 1, ⟨w, r, h1, h2, h3⟩, g => by
    subst h1
    exact ⟨w, r.set i _, rfl, h2, RepL.set i h3 g⟩
theorem RepL.drop : ∀ {ds : List D} {vs : List V} (n : Nat), RepL K Z B ds vs → RepL K Z B (ds.drop n) (vs.drop n)
  | _, _, 0, h => h
  | [], _, _ + 1, h => by rw [show _ = [] from h]; exact rfl
  | _ :: _, _, n + 1, ⟨_, r, h1, _, h3⟩ => by
    subst h1
    exact RepL.drop n h3
theorem RepL.take : ∀ {ds : List D} {vs : List V} (n : Nat), RepL K Z B ds vs → RepL K Z B (ds.take n) (vs.take n)
  | _, _, 0, _ => by simp [RepL]
  | [], _, _ + 1, h => by rw [show _ = [] from h]; exact rfl
  | _ :: _, _, n + 1, ⟨v, r, h1, h2, h3⟩ => by
    subst h1
    exact ⟨v, r.take n, rfl, h2, RepL.take n h3⟩
theorem RepL.flat : ∀ {ds : List D} {vs : List V} (n : Nat), RepL K Z B ds vs → RepL K Z B (List.replicate n ds).flatten (List.replicate n vs).flatten
  | _, _, 0, _ => rfl
  | ds, vs, n + 1, h => by
    rw [List.replicate_succ, List.replicate_succ, List.flatten_cons, List.flatten_cons]
    exact h.append (RepL.flat n h)
end

/-! ### worlds -/
structure Wd where
  Z : Hp
  H : Hp
  B : List Addr
  bx : Bx

/-- a mutable object's content -/
def Cell (K : PySem.W.Frag) (Z : Hp) (B : List Addr) : D → HO → Prop
  | .lst ds, o => ∃ vs, o = .lst vs ∧ ds.length ≤ SZ ∧ RepL K Z B ds vs
  | _, _ => False

structure Ok (K : PySem.W.Frag) (w : Wd) : Prop where
  sub : Same w.Z w.H
  len : w.B.length = w.bx.length
  nd : w.B.Nodup
  box : ∀ (n : Nat) (d : D) (a : Addr), w.bx[n]? = some d → w.B[n]? = some a → w.Z a = none ∧ ∃ o, w.H a = some o ∧ Cell K w.Z w.B d o

structure Le (w w' : Wd) : Prop where
  z : Same w.Z w'.Z
  b : ∃ more, w'.B = w.B ++ more ∧ ∀ a ∈ more, w.H a = none
  h : ∀ a o, w.H a = some o → a ∉ w.B → w'.H a = some o
  n : ∀ a, w.H a ≠ none → w.Z a = none → w'.Z a = none
  hb : ∀ a ∈ w.B, w'.H a ≠ none

theorem Le.bget {w w' : Wd} (l : Le w w') (n : Nat) (a : Addr) (h : w.B[n]? = some a) : w'.B[n]? = some a := by
  obtain ⟨more, e, _⟩ := l.b
  rw [e]
  exact (List.getElem?_append_left (List.getElem?_eq_some_iff.mp h).1).trans h
theorem Ok.hb {K : PySem.W.Frag} {w : Wd} (k : Ok K w) : ∀ a ∈ w.B, w.H a ≠ none := fun a h => by
  obtain ⟨n, hn, e⟩ := List.mem_iff_getElem.mp h
  have e1 : w.B[n]? = some a := by rw [List.getElem?_eq_getElem hn, e]
  have hn2 : n < w.bx.length := by rw [← k.len]; exact hn
  obtain ⟨_, o, e2, _⟩ := k.box n w.bx[n] a (List.getElem?_eq_getElem hn2) e1
  rw [e2]
  exact fun z => nomatch z
theorem Ok.zb {K : PySem.W.Frag} {w : Wd} (k : Ok K w) : ∀ a ∈ w.B, w.Z a = none := fun a h => by
  obtain ⟨n, hn, e⟩ := List.mem_iff_getElem.mp h
  have e1 : w.B[n]? = some a := by rw [List.getElem?_eq_getElem hn, e]
  have hn2 : n < w.bx.length := by rw [← k.len]; exact hn
  exact (k.box n w.bx[n] a (List.getElem?_eq_getElem hn2) e1).1
theorem Le.refl {K : PySem.W.Frag} {w : Wd} (k : Ok K w) : Le w w := ⟨Same.refl _, ⟨[], by simp, by simp⟩, fun _ _ h _ => h, fun _ _ h => h, k.hb⟩
theorem Le.free {w w' : Wd} (l : Le w w') {a : Addr} (h : w'.H a = none) : w.H a = none := by
  cases e : w.H a with
  | none => rfl
  | some o =>
    by_cases hb : a ∈ w.B
    · exact absurd h (l.hb a hb)
    · rw [l.h a o e hb] at h
      cases h
theorem Le.there {w w' : Wd} (l : Le w w') {a : Addr} (h : w.H a ≠ none) : w'.H a ≠ none := fun e => h (l.free e)
theorem Le.notB {w w' : Wd} (l : Le w w') {a : Addr} (h : w.H a ≠ none) (hb : a ∉ w.B) : a ∉ w'.B := fun q => by
  obtain ⟨more, e, hm⟩ := l.b
  rw [e] at q
  rcases List.mem_append.mp q with q | q
  · exact hb q
  · exact h (hm a q)
theorem Le.trans {w w1 w2 : Wd} (a : Le w w1) (b : Le w1 w2) : Le w w2 where
  z := a.z.trans b.z
  b := by
    obtain ⟨m1, e1, h1⟩ := a.b
    obtain ⟨m2, e2, h2⟩ := b.b
    refine ⟨m1 ++ m2, by rw [e2, e1, List.append_assoc], fun c hc => ?_⟩
    rcases List.mem_append.mp hc with hc | hc
    · exact h1 c hc
    · exact a.free (h2 c hc)
  h := fun c o e hb => b.h c o (a.h c o e hb) (a.notB (by rw [e]; exact fun z => nomatch z) hb)
  n := fun c e h => b.n c (a.there e) (a.n c e h)
  hb := fun c hc => b.there (a.hb c hc)

section
variable {K : PySem.W.Frag} {w w' : Wd}
theorem Rep.le {d : D} {v : V} (l : Le w w') (h : Rep K w.Z w.B d v) : Rep K w'.Z w'.B d v := h.up l.z l.bget
theorem RepL.le {ds : List D} {vs : List V} (l : Le w w') (h : RepL K w.Z w.B ds vs) : RepL K w'.Z w'.B ds vs := h.up l.z l.bget
theorem Cell.le {d : D} {o : HO} (l : Le w w') (h : Cell K w.Z w.B d o) : Cell K w'.Z w'.B d o := by
  cases d with
  | lst ds =>
    obtain ⟨vs, e, hl, r⟩ := h
    exact ⟨vs, e, hl, r.le l⟩
  | _ => exact h.elim
end

/-! ### modes: a value that may be kept (val), one that is read at once (brw), one that nobody else has (frs) -/
inductive Md | val | brw | frs
def isImm : D → Bool
  | .lst _ => false
  | _ => true
def RepB (K : PySem.W.Frag) (w : Wd) (d : D) (v : V) : Prop :=
  Rep K w.Z w.B d v ∨ ∃ a o, v = .ref a ∧ a ∉ w.B ∧ w.H a = some o ∧ Cell K w.Z w.B d o
def RepF (K : PySem.W.Frag) (w0 w : Wd) (d : D) (v : V) : Prop :=
  (isImm d = true ∧ Rep K w.Z w.B d v) ∨ ∃ a o, v = .ref a ∧ w0.H a = none ∧ w.Z a = none ∧ a ∉ w.B ∧ w.H a = some o ∧ Cell K w.Z w.B d o
def RepM (K : PySem.W.Frag) : Md → Wd → Wd → D → V → Prop
  | .val, _, w, d, v => Rep K w.Z w.B d v
  | .brw, _, w, d, v => RepB K w d v
  | .frs, w0, w, d, v => RepF K w0 w d v

section
variable {K : PySem.W.Frag} {w w0 w1 w' : Wd} {d : D} {v : V}
theorem RepB.le (l : Le w w') (h : RepB K w d v) : RepB K w' d v := by
  rcases h with h | ⟨a, o, e, hb, ho, c⟩
  · exact .inl (h.le l)
  · exact .inr ⟨a, o, e, l.notB (by rw [ho]; exact fun z => nomatch z) hb, l.h a o ho hb, c.le l⟩
theorem RepF.le (l : Le w w') (h : RepF K w0 w d v) : RepF K w0 w' d v := by
  rcases h with ⟨i, h⟩ | ⟨a, o, e, h0, hz, hb, ho, c⟩
  · exact .inl ⟨i, h.le l⟩
  · have ne : w.H a ≠ none := by rw [ho]; exact fun z => nomatch z
    exact .inr ⟨a, o, e, h0, l.n a ne hz, l.notB ne hb, l.h a o ho hb, c.le l⟩
theorem RepF.pre (l : Le w0 w1) (h : RepF K w1 w d v) : RepF K w0 w d v := by
  rcases h with h | ⟨a, o, e, h0, r⟩
  · exact .inl h
  · exact .inr ⟨a, o, e, l.free h0, r⟩
theorem RepF.b (h : RepF K w0 w d v) : RepB K w d v := by
  rcases h with ⟨_, h⟩ | ⟨a, o, e, _, _, hb, ho, c⟩
  · exact .inl h
  · exact .inr ⟨a, o, e, hb, ho, c⟩
/-- what nobody else has may be frozen -/
theorem RepF.freeze (l : Le w0 w) (k : Ok K w) (h : RepF K w0 w d v) : ∃ w', Le w0 w' ∧ Ok K w' ∧ w'.bx = w.bx ∧ w'.H = w.H ∧ Rep K w'.Z w'.B d v := by
  rcases h with ⟨_, h⟩ | ⟨a, o, e, h0, hz, hb, ho, c⟩
  · exact ⟨w, l, k, rfl, rfl, h⟩
  · have sZ : Same w.Z (upd w.Z a o) := fun b u q => by rw [upd_ne (ne_of_none q hz)]; exact q
    cases d with
    | lst ds =>
      obtain ⟨vs, rfl, hl, r⟩ := c
      have ok' : Ok K ⟨upd w.Z a (.lst vs), w.H, w.B, w.bx⟩ := by
        refine ⟨fun b u q => ?_, k.len, k.nd, fun n d b h1 h2 => ?_⟩
        · have q : upd w.Z a (.lst vs) b = some u := q
          by_cases hba : b = a
          · subst hba
            rw [upd_same] at q
            cases q
            exact ho
          · rw [upd_ne hba] at q
            exact k.sub b u q
        · obtain ⟨z, u, hu, cu⟩ := k.box n d b h1 h2
          have hba : b ≠ a := fun q => hb (q ▸ List.mem_of_getElem? h2)
          refine ⟨(upd_ne hba).trans z, u, hu, ?_⟩
          cases d with
          | lst ds =>
            obtain ⟨vs, e, hl, r⟩ := cu
            exact ⟨vs, e, hl, r.up sZ fun _ _ h => h⟩
          | _ => exact cu.elim
      refine ⟨⟨upd w.Z a (.lst vs), w.H, w.B, w.bx⟩, ⟨l.z.trans sZ, l.b, l.h, fun b hne hz0 => ?_, l.hb⟩, ok', rfl, rfl, ⟨a, vs, e, hl, upd_same, r.up sZ fun _ _ h => h⟩⟩
      exact (upd_ne (fun q : b = a => hne (by rw [q]; exact h0))).trans (l.n b hne hz0)
    | _ => exact c.elim
end

/-! ### the slots -/
structure EnvOk (K : PySem.W.Frag) (kd : List Bool) (e0 : Hp) (w : Wd) (σ : St) (ρ : Env) : Prop where
  ls : σ.length = kd.length
  lr : ρ.length = kd.length
  dat : ∀ (i : Nat) (d : D), kd[i]? = some false → ρ[i]? = some (some d) → ∃ v, σ[i]? = some (some v) ∧ Rep K w.Z w.B d v
  own : ∀ (i : Nat) (d : D), kd[i]? = some true → ρ[i]? = some (some d) → ∃ a o, σ[i]? = some (some (.ref a)) ∧ w.Z a = none ∧ a ∉ w.B ∧ w.H a = some o ∧ Cell K w.Z w.B d o ∧ e0 a = none
  sep : ∀ (i j : Nat) (d d' : D) (a : Addr), kd[i]? = some true → kd[j]? = some true → ρ[i]? = some (some d) → ρ[j]? = some (some d') → σ[i]? = some (some (.ref a)) → σ[j]? = some (some (.ref a)) → i = j
theorem EnvOk.le {K : PySem.W.Frag} {kd : List Bool} {e0 : Hp} {w w' : Wd} {σ : St} {ρ : Env} (l : Le w w') (h : EnvOk K kd e0 w σ ρ) : EnvOk K kd e0 w' σ ρ where
  ls := h.ls
  lr := h.lr
  dat := fun i d h1 h2 => by
    obtain ⟨v, e, r⟩ := h.dat i d h1 h2
    exact ⟨v, e, r.le l⟩
  own := fun i d h1 h2 => by
    obtain ⟨a, o, e, hz, hb, ho, c, h0⟩ := h.own i d h1 h2
    have ne : w.H a ≠ none := by rw [ho]; exact fun z => nomatch z
    exact ⟨a, o, e, l.n a ne hz, l.notB ne hb, l.h a o ho hb, c.le l, h0⟩
  sep := h.sep

/-! ### readings -/
section
variable (K : PySem.W.Frag) (kd : List Bool) (e0 : Hp)
/-- an expression's reading -/
def tE (m : Md) (f : Env → Bx → Option (D × Bx)) : TE := fun σ H Q => ∃ (w : Wd) (ρ : Env) (d : D) (b : Bx), w.H = H ∧ Ok K w ∧ EnvOk K kd e0 w σ ρ ∧ f ρ w.bx = some (d, b) ∧
  ∀ (w' : Wd) (v : V), Le w w' → Ok K w' → w'.bx = b → RepM K m w w' d v → Q v w'.H
/-- an argument list's -/
def tA (f : Env → Bx → Option (List D × Bx)) : TA := fun σ H Q => ∃ (w : Wd) (ρ : Env) (ds : List D) (b : Bx), w.H = H ∧ Ok K w ∧ EnvOk K kd e0 w σ ρ ∧ f ρ w.bx = some (ds, b) ∧
  ∀ (w' : Wd) (vs : List V), Le w w' → Ok K w' → w'.bx = b → RepL K w'.Z w'.B ds vs → Q vs w'.H
/-- a test's -/
def tT (f : Env → Bx → Option (Bool × Bx)) : TT := fun σ H Q => ∃ (w : Wd) (ρ : Env) (r : Bool) (b : Bx), w.H = H ∧ Ok K w ∧ EnvOk K kd e0 w σ ρ ∧ f ρ w.bx = some (r, b) ∧
  ∀ (w' : Wd), Le w w' → Ok K w' → w'.bx = b → Q r w'.H
/-- a def's promise -/
def spD (m : Md) (F : List D → Bx → Option (D × Bx)) (n : Nat) : Sp := fun vs H Q _ => vs.length = n ∧ ∃ (w : Wd) (ds : List D) (d : D) (b : Bx), w.H = H ∧ Ok K w ∧ RepL K w.Z w.B ds vs ∧ F ds w.bx = some (d, b) ∧
  ∀ (w' : Wd) (v : V), Le w w' → Ok K w' → w'.bx = b → RepM K m w w' d v → Q v w'.H
end
section
variable {K : PySem.W.Frag} {kd : List Bool} {e0 : Hp} {X : Cx}
theorem _root_.L2.PE.imp {e : Expr} {t t' : TE} (h : PE X e t) (f : ∀ σ H Q, t' σ H Q → t σ H Q) : PE X e t' := ⟨fun pins s σ H Q I q => h.run pins s σ H Q I (f _ _ _ q)⟩
theorem _root_.L2.PT.imp {e : Expr} {t t' : TT} (h : PT X e t) (f : ∀ σ H Q, t' σ H Q → t σ H Q) : PT X e t' := ⟨fun pins s σ H Q I q => h.run pins s σ H Q I (f _ _ _ q)⟩
theorem _root_.L2.PA.imp {es : List Expr} {t t' : TA} (h : PA X es t) (f : ∀ σ H Q, t' σ H Q → t σ H Q) : PA X es t' := ⟨fun pos pins s σ H Q I q => h.run pos pins s σ H Q I (f _ _ _ q)⟩
theorem _root_.L2.PS.imp {s : Stmt} {t t' : TS} (h : PS X s t) (f : ∀ D σ H, t' D σ H → t D σ H) : PS X s t' := ⟨fun pins s σ H D I q => h.run pins s σ H D I (f _ _ _ q)⟩
theorem _root_.L2.PSs.imp {ss : List Stmt} {t t' : TS} (h : PSs X ss t) (f : ∀ D σ H, t' D σ H → t D σ H) : PSs X ss t' := ⟨fun pins s σ H D I q => h.run pins s σ H D I (f _ _ _ q)⟩
theorem tE.val_brw {f : Env → Bx → Option (D × Bx)} {σ : St} {H : Hp} {Q : VK} (h : tE K kd e0 .brw f σ H Q) : tE K kd e0 .val f σ H Q := by
  obtain ⟨w, ρ, d, b, h1, h2, h3, h4, k⟩ := h
  exact ⟨w, ρ, d, b, h1, h2, h3, h4, fun w' v l o e r => k w' v l o e (.inl r)⟩
theorem tE.frs_brw {f : Env → Bx → Option (D × Bx)} {σ : St} {H : Hp} {Q : VK} (h : tE K kd e0 .brw f σ H Q) : tE K kd e0 .frs f σ H Q := by
  obtain ⟨w, ρ, d, b, h1, h2, h3, h4, k⟩ := h
  exact ⟨w, ρ, d, b, h1, h2, h3, h4, fun w' v l o e r => k w' v l o e (RepF.b r)⟩
theorem tE.frs_val {f : Env → Bx → Option (D × Bx)} {σ : St} {H : Hp} {Q : VK} (h : tE K kd e0 .val f σ H Q) : tE K kd e0 .frs f σ H Q := by
  obtain ⟨w, ρ, d, b, h1, h2, h3, h4, k⟩ := h
  refine ⟨w, ρ, d, b, h1, h2, h3, h4, fun w' v l o e r => ?_⟩
  obtain ⟨w2, l2, o2, e2, eh, r2⟩ := RepF.freeze l o r
  rw [← eh]
  exact k w2 v l2 o2 (e2.trans e) r2
/-- from what nobody else has to any mode -/
theorem PE.of_frs {e : Expr} {f : Env → Bx → Option (D × Bx)} (h : PE X e (tE K kd e0 .frs f)) (m : Md) : PE X e (tE K kd e0 m f) := by
  cases m with
  | val => exact h.imp fun _ _ _ => tE.frs_val
  | brw => exact h.imp fun _ _ _ => tE.frs_brw
  | frs => exact h
theorem PE.of_val {e : Expr} {f : Env → Bx → Option (D × Bx)} (h : PE X e (tE K kd e0 .val f)) {m : Md} (hm : m ≠ .frs) : PE X e (tE K kd e0 m f) := by
  cases m with
  | val => exact h
  | brw => exact h.imp fun _ _ _ => tE.val_brw
  | frs => exact absurd rfl hm
end
end Dk

set_option autoImplicit false
set_option linter.all false
set_option Elab.async false
set_option maxRecDepth 100000
/-! DkOps: the operators, comparisons, subscripts and built-ins over plain data. Own work. -/
namespace Dk
open PySem PySem.Spec PyProof.Rows L2

section
variable {K : PySem.W.Frag} {w w0 w' : Wd} {d : D} {v : V}
theorem RepB.imm (h : RepB K w d v) (i : isImm d = true) : Rep K w.Z w.B d v := by
  rcases h with h | ⟨a, o, e, hb, ho, c⟩
  · exact h
  · cases d <;> first | exact c.elim | cases i
theorem RepB.int {i : Int} (h : RepB K w (.int i) v) : v = .int i := h.imm rfl
theorem RepB.bl {b : Bool} (h : RepB K w (.bl b) v) : v = .bl b := h.imm rfl
theorem RepB.str {x : Str} (h : RepB K w (.str x) v) : v = .str x := h.imm rfl
theorem RepB.non (h : RepB K w .non v) : v = .non := h.imm rfl
theorem RepB.tup {ds : List D} (k : Ok K w) (h : RepB K w (.tup ds) v) : ∃ a vs, v = .ref a ∧ ds.length ≤ SZ ∧ SqT K w.H a vs ∧ RepL K w.Z w.B ds vs := by
  obtain ⟨a, vs, e, hl, s, r⟩ := h.imm rfl
  exact ⟨a, vs, e, hl, SqT.up k.sub s, r⟩
theorem RepB.lst {ds : List D} (k : Ok K w) (h : RepB K w (.lst ds) v) : ∃ a vs, v = .ref a ∧ ds.length ≤ SZ ∧ w.H a = some (.lst vs) ∧ RepL K w.Z w.B ds vs := by
  rcases h with ⟨a, vs, e, hl, s, r⟩ | ⟨a, o, e, hb, ho, vs, rfl, hl, r⟩
  · exact ⟨a, vs, e, hl, k.sub _ _ s, r⟩
  · exact ⟨a, vs, e, hl, ho, r⟩
theorem RepB.ref {n : Nat} (h : RepB K w (.ref n) v) : ∃ a, v = .ref a ∧ w.B[n]? = some a := h.imm rfl
theorem RepB.rng {lo hi : Int} (k : Ok K w) (h : RepB K w (.rng lo hi) v) : ∃ a, v = .ref a ∧ w.H a = some (.rng lo hi) := by
  obtain ⟨a, e, q⟩ := h.imm rfl
  exact ⟨a, e, k.sub _ _ q⟩
theorem RepL.len_le {ds : List D} {vs : List V} (h : RepL K w.Z w.B ds vs) {n : Nat} (l : ds.length ≤ n) : vs.length ≤ n := by rw [← h.length]; exact l

/-- a new object of its own -/
theorem newCell (k : Ok K w) {p : Addr} {o : HO} (hp : w.H p = none) (c : Cell K w.Z w.B d o) :
    Le w ⟨w.Z, upd w.H p o, w.B, w.bx⟩ ∧ Ok K ⟨w.Z, upd w.H p o, w.B, w.bx⟩ ∧ RepF K w ⟨w.Z, upd w.H p o, w.B, w.bx⟩ d (.ref p) := by
  have hb : p ∉ w.B := fun q => k.hb p q hp
  have hz : w.Z p = none := by
    cases e : w.Z p with
    | none => rfl
    | some u => rw [k.sub _ _ e] at hp; cases hp
  refine ⟨⟨Same.refl _, ⟨[], by simp, by simp⟩, fun a u e _ => (upd_ne (ne_of_none e hp)).trans e, fun _ _ h => h, fun a ha => ?_⟩, ⟨fun a u e => (upd_ne (ne_of_none (k.sub _ _ e) hp)).trans (k.sub _ _ e), k.len, k.nd, fun n d a h1 h2 => ?_⟩, .inr ⟨p, o, rfl, hp, hz, hb, upd_same, c⟩⟩
  · show upd w.H p o a ≠ none
    rw [upd_ne fun q : a = p => hb (q ▸ ha)]
    exact k.hb a ha
  · obtain ⟨z, u, hu, cu⟩ := k.box n d a h1 h2
    exact ⟨z, u, (upd_ne (ne_of_none hu hp)).trans hu, cu⟩
/-- a new object that is never changed -/
theorem newFix (k : Ok K w) {p : Addr} {o : HO} (hp : w.H p = none) :
    Le w ⟨upd w.Z p o, upd w.H p o, w.B, w.bx⟩ ∧ Ok K ⟨upd w.Z p o, upd w.H p o, w.B, w.bx⟩ := by
  have hb : p ∉ w.B := fun q => k.hb p q hp
  have hz : w.Z p = none := by
    cases e : w.Z p with
    | none => rfl
    | some u => rw [k.sub _ _ e] at hp; cases hp
  have sZ : Same w.Z (upd w.Z p o) := fun b u q => by rw [upd_ne (ne_of_none q hz)]; exact q
  have l : Le w ⟨upd w.Z p o, upd w.H p o, w.B, w.bx⟩ := by
    refine ⟨sZ, ⟨[], by simp, by simp⟩, fun a u e _ => (upd_ne (ne_of_none e hp)).trans e, fun a h z => ?_, fun a ha => ?_⟩
    · exact (upd_ne fun q : a = p => h (q ▸ hp)).trans z
    · show upd w.H p o a ≠ none
      rw [upd_ne fun q : a = p => hb (q ▸ ha)]
      exact k.hb a ha
  refine ⟨l, fun a u e => ?_, k.len, k.nd, fun n d a h1 h2 => ?_⟩
  · have e : upd w.Z p o a = some u := e
    show upd w.H p o a = some u
    by_cases q : a = p
    · subst q
      rw [upd_same] at e ⊢
      exact e
    · rw [upd_ne q] at e ⊢
      exact k.sub _ _ e
  · obtain ⟨z, u, hu, cu⟩ := k.box n d a h1 h2
    have q : a ≠ p := fun q => hb (q ▸ List.mem_of_getElem? h2)
    exact ⟨(upd_ne q).trans z, u, (upd_ne q).trans hu, cu.le l⟩
theorem newTup (k : Ok K w) {p : Addr} {ds : List D} {vs : List V} (hp : w.H p = none) (hl : ds.length ≤ SZ) (r : RepL K w.Z w.B ds vs) :
    ∃ w', Le w w' ∧ Ok K w' ∧ w'.bx = w.bx ∧ w'.H = upd w.H p (.tup vs) ∧ Rep K w'.Z w'.B (.tup ds) (.ref p) := by
  obtain ⟨l, o⟩ := newFix k (o := .tup vs) hp
  exact ⟨_, l, o, rfl, rfl, p, vs, rfl, hl, SqT.of upd_same, r.le l⟩
theorem newLst (k : Ok K w) {p : Addr} {ds : List D} {vs : List V} (hp : w.H p = none) (hl : ds.length ≤ SZ) (r : RepL K w.Z w.B ds vs) :
    ∃ w', Le w w' ∧ Ok K w' ∧ w'.bx = w.bx ∧ w'.H = upd w.H p (.lst vs) ∧ RepF K w w' (.lst ds) (.ref p) := by
  obtain ⟨l, o, f⟩ := newCell (d := .lst ds) k hp ⟨vs, rfl, hl, r⟩
  exact ⟨_, l, o, rfl, rfl, f⟩
theorem RepF.of_imm (i : isImm d = true) (h : Rep K w.Z w.B d v) : RepF K w0 w d v := .inl ⟨i, h⟩
end

/-! ### operators by values -/
def rD2 (K : PySem.W.Frag) (op : D → D → Option D) : R2 := fun x y H Q => ∃ (w : Wd) (d1 d2 d : D), w.H = H ∧ Ok K w ∧ RepB K w d1 x ∧ RepB K w d2 y ∧ op d1 d2 = some d ∧
  ∀ (w' : Wd) (v : V), Le w w' → Ok K w' → w'.bx = w.bx → RepF K w w' d v → Q v w'.H

section
variable {X : Cx}
/-- what a rule of the layer that gives a scalar asks -/
theorem fin_imm {K : PySem.W.Frag} {w : Wd} {Q : VK} {d : D} {v : V} (k : Ok K w) (i : isImm d = true) (r : Rep K w.Z w.B d v) (q : ∀ (w' : Wd) (v : V), Le w w' → Ok K w' → w'.bx = w.bx → RepF K w w' d v → Q v w'.H) : Q v w.H :=
  q w v (Le.refl k) k rfl (.inl ⟨i, r⟩)
theorem fin_tup {K : PySem.W.Frag} {w : Wd} {Q : VK} {ds : List D} {vs : List V} (k : Ok K w) (hl : ds.length ≤ SZ) (r : RepL K w.Z w.B ds vs) (q : ∀ (w' : Wd) (v : V), Le w w' → Ok K w' → w'.bx = w.bx → RepF K w w' (.tup ds) v → Q v w'.H) : ∀ p, w.H p = none → Q (.ref p) (upd w.H p (.tup vs)) := fun p hp => by
  obtain ⟨w', l, o, e, eh, r'⟩ := newTup k hp hl r
  rw [← eh]
  exact q w' _ l o e (.inl ⟨rfl, r'⟩)
theorem fin_lst {K : PySem.W.Frag} {w : Wd} {Q : VK} {ds : List D} {vs : List V} (k : Ok K w) (hl : ds.length ≤ SZ) (r : RepL K w.Z w.B ds vs) (q : ∀ (w' : Wd) (v : V), Le w w' → Ok K w' → w'.bx = w.bx → RepF K w w' (.lst ds) v → Q v w'.H) : ∀ p, w.H p = none → Q (.ref p) (upd w.H p (.lst vs)) := fun p hp => by
  obtain ⟨w', l, o, e, eh, r'⟩ := newLst k hp hl r
  rw [← eh]
  exact q w' _ l o e r'

def bopA : Bop → Operator
  | .add => .Add | .sub => .Sub | .mul => .Mult | .fdiv => .FloorDiv | .mod => .Mod | .pow => .Pow

theorem op_addD : OpR X (binaryOp .Add) (rD2 X.K (binD .add)) := by
  intro pins s σ H x y v u Q I rx ry h
  obtain ⟨w, d1, d2, d, rfl, k, r1, r2, e, q⟩ := h
  cases d1 <;> cases d2 <;> simp only [binD] at e <;> try cases e
  · cases r1.int
    cases r2.int
    exact op_add pins s σ _ _ _ v u Q I rx ry ⟨_, _, rfl, rfl, fin_imm (d := .int _) k rfl rfl q⟩
  · rename_i a b
    split at e <;> cases e
    rename_i hl
    obtain ⟨a1, vs1, rfl, l1, s1, t1⟩ := r1.tup k
    obtain ⟨a2, vs2, rfl, l2, s2, t2⟩ := r2.tup k
    refine op_catA pins s σ _ _ _ v u Q I rx ry ⟨a1, a2, vs1, vs2, rfl, rfl, s1, s2, ?_, ?_, ?_, fun _ _ => fin_tup k (by rw [List.length_append]; exact hl) (t1.append t2) q⟩
    · rw [← t1.length, ← t2.length, ← SZ_eq]; exact hl
    · intro e
      subst e
      have : a = [] := List.eq_nil_of_length_eq_zero t1.length
      subst this
      exact fin_imm k rfl (r2.imm rfl) q
    · intro _ e
      subst e
      have : b = [] := List.eq_nil_of_length_eq_zero t2.length
      subst this
      rw [List.append_nil] at q
      exact fin_imm k rfl (r1.imm rfl) q
  · rename_i a b
    split at e <;> cases e
    rename_i hl
    obtain ⟨a1, vs1, rfl, l1, s1, t1⟩ := r1.lst k
    obtain ⟨a2, vs2, rfl, l2, s2, t2⟩ := r2.lst k
    exact op_cat pins s σ _ _ _ v u Q I rx ry ⟨a1, a2, vs1, vs2, rfl, rfl, s1, s2, by rw [← t1.length, ← t2.length, ← SZ_eq]; exact hl, fin_lst k (by rw [List.length_append]; exact hl) (t1.append t2) q⟩
theorem op_subD : OpR X (binaryOp .Sub) (rD2 X.K (binD .sub)) := by
  intro pins s σ H x y v u Q I rx ry h
  obtain ⟨w, d1, d2, d, rfl, k, r1, r2, e, q⟩ := h
  cases d1 <;> cases d2 <;> simp only [binD] at e <;> try cases e
  cases r1.int
  cases r2.int
  exact op_sub pins s σ _ _ _ v u Q I rx ry ⟨_, _, rfl, rfl, fin_imm (d := .int _) k rfl rfl q⟩
theorem op_fdivD : OpR X (binaryOp .FloorDiv) (rD2 X.K (binD .fdiv)) := by
  intro pins s σ H x y v u Q I rx ry h
  obtain ⟨w, d1, d2, d, rfl, k, r1, r2, e, q⟩ := h
  cases d1 <;> cases d2 <;> simp only [binD] at e <;> try cases e
  split at e <;> cases e
  rename_i hc
  cases r1.int
  cases r2.int
  exact op_fdiv pins s σ _ _ _ v u Q I rx ry ⟨_, _, rfl, rfl, hc, fin_imm (d := .int _) k rfl rfl q⟩
theorem op_modD : OpR X (binaryOp .Mod) (rD2 X.K (binD .mod)) := by
  intro pins s σ H x y v u Q I rx ry h
  obtain ⟨w, d1, d2, d, rfl, k, r1, r2, e, q⟩ := h
  cases d1 <;> cases d2 <;> simp only [binD] at e <;> try cases e
  split at e <;> cases e
  rename_i hc
  cases r1.int
  cases r2.int
  exact op_mod pins s σ _ _ _ v u Q I rx ry ⟨_, _, rfl, rfl, hc, fin_imm (d := .int _) k rfl rfl q⟩
theorem op_powD : OpR X (binaryOp .Pow) (rD2 X.K (binD .pow)) := by
  intro pins s σ H x y v u Q I rx ry h
  obtain ⟨w, d1, d2, d, rfl, k, r1, r2, e, q⟩ := h
  cases d1 <;> cases d2 <;> simp only [binD] at e <;> try cases e
  split at e <;> cases e
  rename_i hc
  cases r1.int
  cases r2.int
  exact op_pow pins s σ _ _ _ v u Q I rx ry ⟨_, _, rfl, rfl, hc, fin_imm (d := .int _) k rfl rfl q⟩

/-! ### tuple * int, where it is nothing or itself -/
theorem tuple_mul0 (l : Addr) (items : Array Value) (n : Nat) (dd : Option Addr) (sl : Array (Option Value)) (x : Int) (u : Tok) (c0 : (decide (x < -(2 ^ 63)) || decide (x ≥ 2 ^ 63)) = false) (c1 : (items.isEmpty || x == 1) = false) (c2 : (decide (x ≤ 0) || items.isEmpty) = true) :
    Meets (Builtin.«tuple.__mul__» ⟨[.ref l, .int x u], []⟩) (fun _ R s => s.heap.get? l = some { cls := .type "tuple", dict := dd, data := .seq items n, slots := sl } ∧
      R (.ok (.ret (Value.ref s.heap.objs.size))) { s with heap := s.heap.push { cls := Value.type "tuple", data := Data.seq #[] }, toks := s.toks }) :=
  .of_wp fun prog w A R s h => by
    obtain ⟨hp, g, d, tk, os⟩ := s
    obtain ⟨hl, h⟩ := h
    have f1 := AutoSeq1.idx_int
    wp_walk using wpAny_loadPart' hl
    repeat (first
      | (refine wpAny_ite_false (decide_eq_false (by rw [c0]; exact Bool.false_ne_true)) ?_; wp_walk using wpAny_loadPart' hl)
      | (refine wpAny_ite_false (decide_eq_false (by rw [c1]; exact Bool.false_ne_true)) ?_; wp_walk using wpAny_loadPart' hl)
      | (refine wpAny_ite_true (decide_eq_true c2) ?_; wp_walk using wpAny_loadPart' hl))
    exact ⟨_, rfl, h⟩
theorem tuple_mul1 (l : Addr) (items : Array Value) (n : Nat) (dd : Option Addr) (sl : Array (Option Value)) (x : Int) (u : Tok) (c0 : (decide (x < -(2 ^ 63)) || decide (x ≥ 2 ^ 63)) = false) (c1 : (items.isEmpty || x == 1) = true) :
    Meets (Builtin.«tuple.__mul__» ⟨[.ref l, .int x u], []⟩) (fun _ R s => s.heap.get? l = some { cls := .type "tuple", dict := dd, data := .seq items n, slots := sl } ∧
      R (.ok (.ret (Value.ref l))) s) :=
  .of_wp fun prog w A R s h => by
    obtain ⟨hp, g, d, tk, os⟩ := s
    obtain ⟨hl, h⟩ := h
    have f1 := AutoSeq1.idx_int
    wp_walk using wpAny_loadPart' hl
    repeat (first
      | (refine wpAny_ite_false (decide_eq_false (by rw [c0]; exact Bool.false_ne_true)) ?_; wp_walk using wpAny_loadPart' hl)
      | (refine wpAny_ite_true (decide_eq_true c1) ?_; wp_walk using wpAny_loadPart' hl))
    exact ⟨_, rfl, h⟩
theorem op_mulD : OpR X (binaryOp .Mult) (rD2 X.K (binD .mul)) := by
  intro pins s σ H x y v u Q I rx ry h
  obtain ⟨w, d1, d2, d, rfl, k, r1, r2, e, q⟩ := h
  cases d1 <;> cases d2 <;> simp only [binD] at e <;> try cases e
  · split at e <;> cases e
    rename_i hc
    cases r1.int
    cases r2.int
    exact op_mul pins s σ _ _ _ v u Q I rx ry ⟨_, _, rfl, rfl, hc, fin_imm (d := .int _) k rfl rfl q⟩
  · rename_i a i
    split at e <;> cases e
    rename_i hc
    obtain ⟨hne, h1, h2, h3⟩ := hc
    obtain ⟨l, xs, rfl, l1, s1, t1⟩ := r1.tup k
    cases r2.int
    have hxs : xs ≠ [] := fun z => hne (by rw [z] at t1; exact List.eq_nil_of_length_eq_zero t1.length)
    have hlen : xs.length ≤ 1000 := by rw [← t1.length]; exact h3
    have hfl : (List.replicate i.toNat a).flatten.length ≤ SZ := by
      rw [PyProof.Rows.lm_len_rep_flat]
      have : i.toNat * a.length ≤ 1000 * 1000 := Nat.mul_le_mul (by omega) h3
      have : SZ = 16777216 := rfl
      omega
    have fin := fun p hp => fin_tup k hfl (t1.flat i.toNat) q p hp
    by_cases hbig : 2 ≤ i
    · exact op_repT pins s σ _ _ _ v u Q I rx ry ⟨l, i, xs, rfl, rfl, s1, hxs, hbig, h1, hlen, fin⟩
    · cases rx
      obtain ⟨t, rfl⟩ := ry
      obtain ⟨its, r, ⟨⟨cls, dd, data, sl⟩, ho, hc, n, hd⟩, hs⟩ := I.tuple s1
      simp only at hc hd
      subst hc hd
      have hle : its.length = xs.length := r.length.symm
      have c0 : (decide (i < -(2 ^ 63)) || decide (i ≥ 2 ^ 63)) = false := by
        rw [decide_eq_false (by omega), decide_eq_false (by omega)] <;> rfl
      by_cases h1i : i = 1
      · subst h1i
        have c1 : (its.toArray.isEmpty || (1 : Int) == 1) = true := by simp
        refine wpAny_binaryOp_repeat_ref (T := "tuple") (U := "int") (by decide) ⟨_, ho, rfl⟩ (fun s' => typeIs_int s' 1 t) noFill_tuple_mul F.fills_int_mul F.slot_int_rmul repeat_tuple F.slot_int_index.lookup
          (call_meets F.slot_int_rmul (typeIs_int s 1 t) F.entry_int_rmul (F.args_int_rmul_2 _ _) (int_rmul_tuple 1 t l its.toArray n dd sl)
            ⟨ho, rfl, ⟨_, ho, rfl⟩, call_meets F.slot_tuple_mul ⟨_, ho, rfl⟩ F.entry_tuple_mul (F.args_tuple_mul_2 _ _) (tuple_mul1 l its.toArray n dd sl 1 t c0 c1) ⟨ho, ?_⟩⟩)
        have e1 : (List.replicate (1 : Int).toNat a).flatten = a := by simp
        rw [e1] at q
        exact ⟨.ref l, w.H, I, rfl, fin_imm k rfl (r1.imm rfl) q⟩
      · have h0 : i ≤ 0 := by omega
        have hi : its.toArray.isEmpty = false := by
          cases its with
          | nil => exact absurd (List.eq_nil_of_length_eq_zero hle.symm) hxs
          | cons a b => rfl
        have c1 : (its.toArray.isEmpty || i == 1) = false := by
          rw [hi, Bool.false_or]
          exact beq_eq_false_iff_ne.mpr h1i
        have c2 : (decide (i ≤ 0) || its.toArray.isEmpty) = true := by
          rw [decide_eq_true h0, Bool.true_or]
        refine wpAny_binaryOp_repeat_ref (T := "tuple") (U := "int") (by decide) ⟨_, ho, rfl⟩ (fun s' => typeIs_int s' i t) noFill_tuple_mul F.fills_int_mul F.slot_int_rmul repeat_tuple F.slot_int_index.lookup
          (call_meets F.slot_int_rmul (typeIs_int s i t) F.entry_int_rmul (F.args_int_rmul_2 _ _) (int_rmul_tuple i t l its.toArray n dd sl)
            ⟨ho, rfl, ⟨_, ho, rfl⟩, call_meets F.slot_tuple_mul ⟨_, ho, rfl⟩ F.entry_tuple_mul (F.args_tuple_mul_2 _ _) (tuple_mul0 l its.toArray n dd sl i t c0 c1 c2) ⟨ho, ?_⟩⟩)
        have e0 : i.toNat = 0 := by omega
        rw [e0] at fin
        refine ⟨.ref s.heap.objs.size, _, I.laid (t' := s.toks) (o := .tup []) (fun b ob q => Heap.get?_push_of_some _ q) (Nat.le_refl _) ?_, rfl, fin _ (I.hok.fresh (Nat.le_refl _))⟩
        exact ⟨Nat.zero_le _, [], .nil, IsTup.new _ _⟩
theorem op_binD : ∀ op : Bop, OpR X (binaryOp (bopA op)) (rD2 X.K (binD op))
  | .add => op_addD | .sub => op_subD | .mul => op_mulD | .fdiv => op_fdivD | .mod => op_modD | .pow => op_powD
end
end Dk

set_option autoImplicit false
set_option linter.all false
set_option Elab.async false
set_option maxRecDepth 100000
/-! DkCmp: comparisons, subscripts, slices, built-ins. Own work. -/
namespace Dk
open PySem PySem.Spec PyProof.Rows L2

/-! ### data -/
mutual
theorem fit_dp {K : PySem.W.Frag} {w : Wd} (k : Ok K w) : ∀ {n : Nat} {d : D} {v : V}, d.fit n = true → Rep K w.Z w.B d v → Dp K w.H v d.toPy
  | _, .non, _, _, h => by cases (show _ = V.non from h); exact .non
  | _, .bl b, _, _, h => by cases (show _ = V.bl b from h); exact .bl b
  | _, .int i, _, _, h => by cases (show _ = V.int i from h); exact .int i
  | _, .str x, _, _, h => by cases (show _ = V.str x from h); exact .str x
  | 0, .tup _, _, f, _ => by simp [D.fit] at f
  | 0, .lst _, _, f, _ => by simp [D.fit] at f
  | n + 1, .tup ds, _, f, ⟨a, vs, e, _, s, r⟩ => by subst e; exact .tup (SqT.up k.sub s) (fit_dpL k (n := n) (by simpa [D.fit] using f) r)
  | n + 1, .lst ds, _, f, ⟨a, vs, e, _, s, r⟩ => by subst e; exact .lst (SqL.of (k.sub _ _ s)) (fit_dpL k (n := n) (by simpa [D.fit] using f) r)
  | _, .rng _ _, _, f, _ => by simp [D.fit] at f
  | _, .ref _, _, f, _ => by simp [D.fit] at f
  | _, .scr _, _, f, _ => by simp [D.fit] at f
theorem fit_dpL {K : PySem.W.Frag} {w : Wd} (k : Ok K w) : ∀ {n : Nat} {ds : List D} {vs : List V}, D.fitL n ds = true → RepL K w.Z w.B ds vs → DpAll K w.H vs (D.toPyL ds)
  | _, [], _, _, h => by rw [show _ = [] from h]; exact .nil
  | n, d :: ds, _, f, ⟨v, r, e, h1, h2⟩ => by
    subst e
    simp only [D.fitL, Bool.and_eq_true] at f
    exact .cons (fit_dp k f.1 h1) (fit_dpL k f.2 h2)
end
theorem RepB.dp {K : PySem.W.Frag} {w : Wd} (k : Ok K w) {n : Nat} {d : D} {v : V} (f : d.fit n = true) (h : RepB K w d v) : Dp K w.H v d.toPy := by
  rcases h with h | ⟨a, o, rfl, hb, ho, c⟩
  · exact fit_dp k f h
  · cases d with
    | lst ds =>
      obtain ⟨vs, rfl, _, r⟩ := c
      cases n with
      | zero => simp [D.fit] at f
      | succ n => exact .lst (SqL.of ho) (fit_dpL k (n := n) (by simpa [D.fit] using f) r)
    | _ => exact c.elim
mutual
theorem fit_plain : ∀ {n : Nat} {d : D}, d.fit n = true → d.toPy.plain = true ∧ d.toPy.depth ≤ n
  | _, .non, _ => ⟨rfl, Nat.zero_le _⟩
  | _, .bl b, _ => ⟨rfl, Nat.zero_le _⟩
  | _, .int i, _ => ⟨rfl, Nat.zero_le _⟩
  | _, .str x, _ => ⟨rfl, Nat.zero_le _⟩
  | 0, .tup _, f => by simp [D.fit] at f
  | 0, .lst _, f => by simp [D.fit] at f
  | n + 1, .tup ds, f => by
    obtain ⟨a, b⟩ := fit_plainL (n := n) (ds := ds) (by simpa [D.fit] using f)
    exact ⟨a, by show _ + 1 ≤ n + 1; omega⟩
  | n + 1, .lst ds, f => by
    obtain ⟨a, b⟩ := fit_plainL (n := n) (ds := ds) (by simpa [D.fit] using f)
    exact ⟨a, by show _ + 1 ≤ n + 1; omega⟩
  | _, .rng _ _, f => by simp [D.fit] at f
  | _, .ref _, f => by simp [D.fit] at f
  | _, .scr _, f => by simp [D.fit] at f
theorem fit_plainL : ∀ {n : Nat} {ds : List D}, D.fitL n ds = true → PyData.plainAll (D.toPyL ds) = true ∧ PyData.depthAll (D.toPyL ds) ≤ n
  | _, [], _ => ⟨rfl, Nat.zero_le _⟩
  | n, d :: ds, f => by
    simp only [D.fitL, Bool.and_eq_true] at f
    obtain ⟨a, b⟩ := fit_plain f.1
    obtain ⟨a2, b2⟩ := fit_plainL f.2
    refine ⟨?_, ?_⟩
    · show ((D.toPy d).plain && PyData.plainAll (D.toPyL ds)) = true
      rw [a, a2]
      rfl
    · show max _ _ ≤ n
      omega
end
mutual
theorem eqv_py : ∀ (a b : D) (n m : Nat), a.fit n = true → b.fit m = true → a.eqv b = PyData.eqv a.toPy b.toPy
  | .non, b, n, m, _, g => by cases b <;> first | rfl | (simp [D.fit] at g)
  | .bl x, b, n, m, _, g => by cases b <;> first | rfl | (simp [D.fit] at g)
  | .int x, b, n, m, _, g => by cases b <;> first | rfl | (simp [D.fit] at g)
  | .str x, b, n, m, _, g => by cases b <;> first | rfl | (simp [D.fit] at g)
  | .tup xs, b, n, m, f, g => by
    cases b with
    | tup ys =>
      cases n with
      | zero => simp [D.fit] at f
      | succ n => cases m with
        | zero => simp [D.fit] at g
        | succ m => exact eqv_pyL xs ys n m (by simpa [D.fit] using f) (by simpa [D.fit] using g)
    | _ => first | rfl | (simp [D.fit] at g)
  | .lst xs, b, n, m, f, g => by
    cases b with
    | lst ys =>
      cases n with
      | zero => simp [D.fit] at f
      | succ n => cases m with
        | zero => simp [D.fit] at g
        | succ m => exact eqv_pyL xs ys n m (by simpa [D.fit] using f) (by simpa [D.fit] using g)
    | _ => first | rfl | (simp [D.fit] at g)
  | .rng _ _, _, _, _, f, _ => by simp [D.fit] at f
  | .ref _, _, _, _, f, _ => by simp [D.fit] at f
  | .scr _, _, _, _, f, _ => by simp [D.fit] at f
theorem eqv_pyL : ∀ (xs ys : List D) (n m : Nat), D.fitL n xs = true → D.fitL m ys = true → D.eqvL xs ys = PyData.eqvAll (D.toPyL xs) (D.toPyL ys)
  | [], [], _, _, _, _ => rfl
  | [], _ :: _, _, _, _, _ => rfl
  | _ :: _, [], _, _, _, _ => rfl
  | x :: xs, y :: ys, n, m, f, g => by
    simp only [D.fitL, Bool.and_eq_true] at f g
    show (D.eqv x y && D.eqvL xs ys) = (PyData.eqv _ _ && PyData.eqvAll _ _)
    rw [eqv_py x y n m f.1 g.1, eqv_pyL xs ys n m f.2 g.2]
end

/-! ### comparisons by values -/
def rC2 (K : PySem.W.Frag) (op : D → D → Option Bool) : R2 := fun x y H Q => ∃ (w : Wd) (d1 d2 : D) (b : Bool), w.H = H ∧ Ok K w ∧ RepB K w d1 x ∧ RepB K w d2 y ∧ op d1 d2 = some b ∧ Q (.bl b) w.H
def copA : Cop → CmpOp
  | .eq => .Eq | .ne => .NotEq | .lt => .Lt | .le => .LtE | .gt => .Gt | .ge => .GtE | .is_ => .Is | .isNot => .IsNot
section
variable {X : Cx}
theorem op_eqD2 (hu : X.A.units + 64 < cLine) : OpR X (compareOp .Eq) (rC2 X.K (cmpD .eq)) := by
  intro pins s σ H x y v u Q I rx ry h
  obtain ⟨w, d1, d2, b, rfl, k, r1, r2, e, q⟩ := h
  simp only [cmpD, eqD] at e
  split at e <;> cases e
  rename_i hf
  obtain ⟨as, t1⟩ := Dp.reads I _ x v (r1.dp k hf.1) rx
  obtain ⟨bs, t2⟩ := Dp.reads I _ y u (r2.dp k hf.2) ry
  obtain ⟨p1, q1⟩ := fit_plain hf.1
  obtain ⟨p2, q2⟩ := fit_plain hf.2
  rw [eqv_py _ _ _ _ hf.1 hf.2] at q
  have hd : DEEP = 60 := rfl
  exact PySem.SeqAt.eq_plain t1 t2 p1 p2 (by omega) ⟨.bl _, w.H, I, rfl, q⟩
theorem op_neD2 (hu : X.A.units + 64 < cLine) : OpR X (compareOp .NotEq) (rC2 X.K (cmpD .ne)) := by
  intro pins s σ H x y v u Q I rx ry h
  obtain ⟨w, d1, d2, b, rfl, k, r1, r2, e, q⟩ := h
  simp only [cmpD, eqD] at e
  split at e <;> cases e
  rename_i hf
  obtain ⟨as, t1⟩ := Dp.reads I _ x v (r1.dp k hf.1) rx
  obtain ⟨bs, t2⟩ := Dp.reads I _ y u (r2.dp k hf.2) ry
  obtain ⟨p1, q1⟩ := fit_plain hf.1
  obtain ⟨p2, q2⟩ := fit_plain hf.2
  rw [eqv_py _ _ _ _ hf.1 hf.2] at q
  have hd : DEEP = 60 := rfl
  exact PySem.SeqAt.ne_plain t1 t2 p1 p2 (by omega) ⟨.bl _, w.H, I, rfl, q⟩
theorem op_ltD : OpR X (compareOp .Lt) (rC2 X.K (cmpD .lt)) := by
  intro pins s σ H x y v u Q I rx ry h
  obtain ⟨w, d1, d2, b, rfl, k, r1, r2, e, q⟩ := h
  cases d1 <;> cases d2 <;> simp only [cmpD] at e <;> cases e
  cases r1.int
  cases r2.int
  exact op_lt pins s σ _ _ _ v u Q I rx ry ⟨_, _, rfl, rfl, q⟩
theorem op_leD : OpR X (compareOp .LtE) (rC2 X.K (cmpD .le)) := by
  intro pins s σ H x y v u Q I rx ry h
  obtain ⟨w, d1, d2, b, rfl, k, r1, r2, e, q⟩ := h
  cases d1 <;> cases d2 <;> simp only [cmpD] at e <;> cases e
  cases r1.int
  cases r2.int
  exact op_le pins s σ _ _ _ v u Q I rx ry ⟨_, _, rfl, rfl, q⟩
theorem op_gtD : OpR X (compareOp .Gt) (rC2 X.K (cmpD .gt)) := by
  intro pins s σ H x y v u Q I rx ry h
  obtain ⟨w, d1, d2, b, rfl, k, r1, r2, e, q⟩ := h
  cases d1 <;> cases d2 <;> simp only [cmpD] at e <;> cases e
  cases r1.int
  cases r2.int
  exact op_gt pins s σ _ _ _ v u Q I rx ry ⟨_, _, rfl, rfl, q⟩
theorem op_geD : OpR X (compareOp .GtE) (rC2 X.K (cmpD .ge)) := by
  intro pins s σ H x y v u Q I rx ry h
  obtain ⟨w, d1, d2, b, rfl, k, r1, r2, e, q⟩ := h
  cases d1 <;> cases d2 <;> simp only [cmpD] at e <;> cases e
  cases r1.int
  cases r2.int
  exact op_ge pins s σ _ _ _ v u Q I rx ry ⟨_, _, rfl, rfl, q⟩
theorem RepB.isNon {K : PySem.W.Frag} {w : Wd} {d : D} {v : V} (h : RepB K w d v) : decide (v = .non) = d.isNon := by
  rcases h with h | ⟨a, o, rfl, hb, ho, c⟩
  · cases d with
    | non => cases (show v = .non from h); rfl
    | bl b => cases (show v = .bl b from h); rfl
    | int b => cases (show v = .int b from h); rfl
    | str b => cases (show v = .str b from h); rfl
    | tup ds => obtain ⟨a, vs, rfl, _⟩ := h; rfl
    | lst ds => obtain ⟨a, vs, rfl, _⟩ := h; rfl
    | rng i j => obtain ⟨a, rfl, _⟩ := h; rfl
    | ref n => obtain ⟨a, rfl, _⟩ := h; rfl
    | scr ds => obtain ⟨a, vs, rfl, _⟩ := h; rfl
  · cases d <;> first | exact c.elim | rfl
theorem op_isD : OpR X (compareOp .Is) (rC2 X.K (cmpD .is_)) := by
  intro pins s σ H x y v u Q I rx ry h
  obtain ⟨w, d1, d2, b, rfl, k, r1, r2, e, q⟩ := h
  cases d2 with
  | non =>
    simp only [cmpD] at e
    cases e
    rw [← r1.isNon] at q
    exact op_isN pins s σ _ _ _ v u Q I rx ry ⟨r2.non, q⟩
  | bl c =>
    cases d1 <;> simp only [cmpD] at e <;> cases e
    cases r1.bl
    cases r2.bl
    exact op_isBl pins s σ _ _ _ v u Q I rx ry ⟨_, _, rfl, rfl, q⟩
  | _ => cases d1 <;> simp only [cmpD] at e <;> cases e
theorem op_isNotD : OpR X (compareOp .IsNot) (rC2 X.K (cmpD .isNot)) := by
  intro pins s σ H x y v u Q I rx ry h
  obtain ⟨w, d1, d2, b, rfl, k, r1, r2, e, q⟩ := h
  cases d2 with
  | non =>
    simp only [cmpD] at e
    cases e
    rw [← r1.isNon] at q
    exact op_notN pins s σ _ _ _ v u Q I rx ry ⟨r2.non, q⟩
  | bl c =>
    cases d1 <;> simp only [cmpD] at e <;> cases e
    cases r1.bl
    cases r2.bl
    exact op_notBl pins s σ _ _ _ v u Q I rx ry ⟨_, _, rfl, rfl, q⟩
  | _ => cases d1 <;> simp only [cmpD] at e <;> cases e
theorem op_cmpD (hu : X.A.units + 64 < cLine) : ∀ op : Cop, OpR X (compareOp (copA op)) (rC2 X.K (cmpD op))
  | .eq => op_eqD2 hu | .ne => op_neD2 hu | .lt => op_ltD | .le => op_leD | .gt => op_gtD | .ge => op_geD | .is_ => op_isD | .isNot => op_isNotD
theorem cop_mark (op : Cop) (b : Expr) : behindInMarks (copA op) b = false := by cases op <;> exact nomark _
end

/-! ### subscripts -/
section
variable {X : Cx}
theorem ixD_eq (n : Nat) (i : Int) : ixD n i = ixN n i := rfl
def rIxD (K : PySem.W.Frag) : R2 := fun x y H Q => ∃ (w : Wd) (d1 d2 d : D), w.H = H ∧ Ok K w ∧ RepB K w d1 x ∧ RepB K w d2 y ∧ itemD w.bx d1 d2 = some d ∧ ∀ v, Rep K w.Z w.B d v → Q v w.H
theorem ix_D : IxR X (rIxD X.K) := by
  intro value slice pins s σ H x y v u Q I rx ry h hs
  obtain ⟨w, d1, d2, d, rfl, k, r1, r2, e, q⟩ := h
  cases d1 with
  | tup ds =>
    cases d2 <;> simp only [itemD] at e <;> try cases e
    rename_i i
    obtain ⟨p, vs, rfl, l1, s1, t1⟩ := r1.tup k
    cases r2.int
    obtain ⟨j, hj, hd⟩ := Option.bind_eq_some_iff.mp e
    obtain ⟨z, hz, rz⟩ := t1.get hd
    refine ix_tup value slice pins s σ _ _ _ v u Q I rx ry ⟨p, vs, i, z, rfl, rfl, s1, ?_, q z rz⟩ hs
    unfold atI
    rw [← t1.length, ← ixD_eq, hj]
    exact hz
  | lst ds =>
    cases d2 <;> simp only [itemD] at e <;> try cases e
    rename_i i
    obtain ⟨p, vs, rfl, l1, s1, t1⟩ := r1.lst k
    cases r2.int
    obtain ⟨j, hj, hd⟩ := Option.bind_eq_some_iff.mp e
    obtain ⟨z, hz, rz⟩ := t1.get hd
    refine ix_list value slice pins s σ _ _ _ v u Q I rx ry ⟨p, vs, i, z, rfl, rfl, SqL.of s1, ?_, q z rz⟩ hs
    unfold atI
    rw [← t1.length, ← ixD_eq, hj]
    exact hz
  | ref n =>
    cases d2 <;> simp only [itemD] at e <;> try cases e
    rename_i i
    split at e <;> try cases e
    rename_i ds hn
    obtain ⟨p, rfl, hp⟩ := r1.ref
    cases r2.int
    obtain ⟨_, o, ho, vs, rfl, l1, t1⟩ := k.box n _ p hn hp
    obtain ⟨j, hj, hd⟩ := Option.bind_eq_some_iff.mp e
    obtain ⟨z, hz, rz⟩ := t1.get hd
    refine ix_list value slice pins s σ _ _ _ v u Q I rx ry ⟨p, vs, i, z, rfl, rfl, SqL.of ho, ?_, q z rz⟩ hs
    unfold atI
    rw [← t1.length, ← ixD_eq, hj]
    exact hz
  | _ => cases d2 <;> simp only [itemD] at e <;> cases e

/-! ### slices -/
def rSlD (K : PySem.W.Frag) : V → Option Int → Option Int → Hp → VK → Prop := fun x lo hi H Q => ∃ (w : Wd) (d1 d : D), w.H = H ∧ Ok K w ∧ RepB K w d1 x ∧ sliceD d1 lo hi = some d ∧
  ∀ (w' : Wd) (v : V), Le w w' → Ok K w' → w'.bx = w.bx → RepF K w w' d v → Q v w'.H
theorem RepL.cut {K : PySem.W.Frag} {Z : Hp} {B : List Addr} {ds : List D} {vs : List V} (h : RepL K Z B ds vs) (lo hi : Option Int) : RepL K Z B (cutD ds lo hi) (cutV vs lo hi) := by
  have e : ∀ (n m : Nat) (o : Option Int), cutIx n m o = HT.sIx n m o := fun n m o => by cases o <;> rfl
  unfold cutD cutV
  rw [e, e, h.length]
  exact (h.drop _).take _
theorem cutD_len (ds : List D) (lo hi : Option Int) : (cutD ds lo hi).length ≤ ds.length := by
  unfold cutD
  rw [List.length_take, List.length_drop]
  omega
theorem sl_D : SlR X (rSlD X.K) := by
  intro pins s σ H x v vl vu lo hi sl Q I rx hs pl pu h
  obtain ⟨w, d1, d, rfl, k, r1, e, q⟩ := h
  cases d1 with
  | tup ds =>
    simp only [sliceD] at e
    cases e
    obtain ⟨p, vs, rfl, l1, s1, t1⟩ := r1.tup k
    refine sl_tupA pins s σ _ _ v vl vu lo hi sl Q I rx hs pl pu ⟨p, vs, rfl, s1, fun hw => ?_, fun _ => fin_tup k (Nat.le_trans (cutD_len ds lo hi) l1) (t1.cut lo hi) q⟩
    have ec : cutD ds lo hi = ds := by
      have ex : ∀ (n m : Nat) (o : Option Int), cutIx n m o = HT.sIx n m o := fun n m o => by cases o <;> rfl
      unfold cutD
      rw [ex, ex, t1.length, hw.1, hw.2, List.drop_zero, Nat.sub_zero, ← t1.length, List.take_length]
    rw [ec] at q
    exact fin_imm k rfl (r1.imm rfl) q
  | lst ds =>
    simp only [sliceD] at e
    cases e
    obtain ⟨p, vs, rfl, l1, s1, t1⟩ := r1.lst k
    exact sl_list pins s σ _ _ v vl vu lo hi sl Q I rx hs pl pu ⟨p, vs, rfl, SqL.of s1, fin_lst k (Nat.le_trans (cutD_len ds lo hi) l1) (t1.cut lo hi) q⟩
  | _ => simp only [sliceD] at e; cases e
end
end Dk

set_option autoImplicit false
set_option linter.all false
set_option Elab.async false
set_option maxRecDepth 100000
/-! DkBlt: built-ins by values, what is walked, targets. Own work. -/
namespace Dk
open PySem PySem.Spec PyProof.Rows L2

def RepBL (K : PySem.W.Frag) (w : Wd) : List D → List V → Prop
  | [], vs => vs = []
  | d :: ds, vs => ∃ v r, vs = v :: r ∧ RepB K w d v ∧ RepBL K w ds r
theorem RepBL.le {K : PySem.W.Frag} {w w' : Wd} (l : Le w w') : ∀ {ds : List D} {vs : List V}, RepBL K w ds vs → RepBL K w' ds vs
  | [], _, h => h
  | _ :: _, _, ⟨v, r, e, h1, h2⟩ => ⟨v, r, e, h1.le l, RepBL.le l h2⟩

/-! ### built-ins -/
def rBl (K : PySem.W.Frag) (f : Blt) : List V → Hp → VK → Prop := fun vs H Q => ∃ (w : Wd) (ds : List D) (d : D), w.H = H ∧ Ok K w ∧ RepBL K w ds vs ∧ bltD f ds = some d ∧
  ∀ (w' : Wd) (v : V), Le w w' → Ok K w' → w'.bx = w.bx → RepF K w w' d v → Q v w'.H
def bltX : Blt → Str
  | .len => "len" | .abs => "abs" | .max2 => "max" | .all => "all" | .tuple => "tuple" | .list => "list" | .int => "int" | .rng1 => "range" | .repr => "repr"
def bltV : Blt → Value
  | .len => .builtin "len" | .abs => .builtin "abs" | .max2 => .builtin "max" | .all => .builtin "all" | .tuple => .type "tuple" | .list => .type "list" | .int => .type "int" | .rng1 => .type "range" | .repr => .builtin "repr"
section
variable {X : Cx}
theorem one_of {K : PySem.W.Frag} {w : Wd} {d : D} {vs : List V} (h : RepBL K w [d] vs) : ∃ v, vs = [v] ∧ RepB K w d v := by
  obtain ⟨v, r, e, h1, h2⟩ := h
  cases (show r = [] from h2)
  exact ⟨v, e, h1⟩
theorem two_of {K : PySem.W.Frag} {w : Wd} {d d' : D} {vs : List V} (h : RepBL K w [d, d'] vs) : ∃ v v', vs = [v, v'] ∧ RepB K w d v ∧ RepB K w d' v' := by
  obtain ⟨v, r, e, h1, h2⟩ := h
  obtain ⟨v', rfl, h3⟩ := one_of h2
  exact ⟨v, v', e, h1, h3⟩
theorem boolsD_rep {K : PySem.W.Frag} {Z : Hp} {B : List Addr} : ∀ {ds : List D} {bs : List Bool} {vs : List V}, boolsD ds = some bs → RepL K Z B ds vs → vs = bs.map V.bl
  | [], bs, vs, e, h => by
    simp only [boolsD] at e
    cases e
    exact h
  | d :: ds, bs, vs, e, ⟨v, r, e1, h1, h2⟩ => by
    cases d <;> simp only [boolsD] at e <;> try cases e
    split at e <;> cases e
    rename_i bs' hb
    subst e1
    cases (show v = .bl _ from h1)
    rw [boolsD_rep hb h2]
    rfl
theorem cr_range1 : CallR X (.type "range") (fun vs H Q => ∃ i, vs = [V.int i] ∧ ∀ p, H p = none → Q (.ref p) (upd H p (.rng 0 i))) := by
  intro pins s σ H vs us Q I r h
  obtain ⟨i, rfl, q⟩ := h
  obtain ⟨u1, rfl, ri⟩ := vals1 r
  obtain ⟨t, rfl⟩ := ri
  refine call_range_1 ⟨.ref s.heap.objs.size, upd H s.heap.objs.size (.rng 0 i), I.laid (t' := s.toks + 1 + 1) (fun b o e => Heap.get?_push_of_some _ e) (Nat.le_refl _) ?_, rfl, q _ (I.hok.fresh (Nat.le_refl _))⟩
  exact ⟨s.toks, t, s.toks + 1, Heap.get?_push_size _ rfl⟩
theorem _root_.L2.Room.units2 {k : Nat} {A : Around} (r : Room k A) : A.units + 100 < cLine := by have := r.un; omega
mutual
theorem fit_noDict : ∀ {n : Nat} {d : D}, d.fit n = true → d.toPy.hasDict = false
  | _, .non, _ => rfl
  | _, .bl b, _ => rfl
  | _, .int i, _ => rfl
  | _, .str x, _ => rfl
  | 0, .tup _, f => by simp [D.fit] at f
  | 0, .lst _, f => by simp [D.fit] at f
  | n + 1, .tup ds, f => fit_noDictL (n := n) (ds := ds) (by simpa [D.fit] using f)
  | n + 1, .lst ds, f => fit_noDictL (n := n) (ds := ds) (by simpa [D.fit] using f)
  | _, .rng _ _, f => by simp [D.fit] at f
  | _, .ref _, f => by simp [D.fit] at f
  | _, .scr _, f => by simp [D.fit] at f
theorem fit_noDictL : ∀ {n : Nat} {ds : List D}, D.fitL n ds = true → PyData.hasDictAll (D.toPyL ds) = false
  | _, [], _ => rfl
  | n, d :: ds, f => by
    simp only [D.fitL, Bool.and_eq_true] at f
    show ((D.toPy d).hasDict || PyData.hasDictAll (D.toPyL ds)) = false
    rw [fit_noDict f.1, fit_noDictL f.2]
    rfl
end
theorem cr_repr (hu : X.A.units + 100 < cLine) (hg : X.A.guards = some []) {w : Wd} {d : D} {x : V} {v : Value} {pins : List (Addr × Obj)} {s : Shared} {σ : St} {Q : VK} (k : Ok X.K w) (f : d.fit DEEP = true) (sh : d.toPy.showable = true) (hl : d.toPy.shown.length ≤ SZ) (I : Inv X pins σ w.H s) (r1 : RepB X.K w d x) (rv : RelV x v) (q : Q (.str d.toPy.shown) w.H) :
    wpAny (model X.prog X.w) X.A (call (.builtin "repr") [v]) (EP X pins σ Q) X.xe s := by
  rw [SZ_eq] at hl
  have nest : (∃ a, v = .ref a) → wpAny (model X.prog X.w) X.A (call (.builtin "repr") [v]) (EP X pins σ Q) X.xe s := by
    rintro ⟨a, rfl⟩
    obtain ⟨as, t1⟩ := Dp.reads I _ x _ (r1.dp k f) rv
    have dep := (fit_plain f).2
    have hd : DEEP = 60 := rfl
    exact repr_of_reads' t1 sh (PyData.noDict_hsm (fit_noDict f)) hg (by omega) (fun _ _ e => e) (fun h' u tk hk => ⟨.str d.toPy.shown, w.H, I.kept hk, ⟨_, rfl⟩, q⟩) hl
  cases d with
  | non =>
    cases r1.non
    cases rv
    exact PySem.P.repr_of_none ⟨.str "None", _, I.tok _, ⟨_, rfl⟩, q⟩
  | bl b =>
    cases r1.bl
    cases rv
    exact PySem.P.repr_of_bool ⟨.str (if b then "True" else "False"), _, I.tok _, ⟨_, rfl⟩, q⟩
  | int i =>
    cases r1.int
    obtain ⟨t, rfl⟩ := rv
    exact PySem.P.repr_of_int (of_decide_eq_true sh) ⟨.str (toString i), _, I.tok _, ⟨_, rfl⟩, q⟩
  | str z =>
    cases r1.str
    obtain ⟨t, rfl⟩ := rv
    exact PySem.P.repr_of_str ⟨.str (reprText z), _, I.tok _, ⟨_, rfl⟩, q⟩ hl
  | tup ds =>
    obtain ⟨a, vs, rfl, _⟩ := r1.tup k
    exact nest ⟨a, rv⟩
  | lst ds =>
    obtain ⟨a, vs, rfl, _⟩ := r1.lst k
    exact nest ⟨a, rv⟩
  | rng i j => simp [D.fit] at f
  | ref n => simp [D.fit] at f
  | scr ds => simp [D.fit] at f
theorem cr_D (hc : X.calm = true) (hu : X.A.units + 100 < cLine) (hg : X.A.guards = some []) : ∀ f : Blt, CallR X (bltV f) (rBl X.K f) := by
  intro f pins s σ H xs us Q I r h
  obtain ⟨w, ds, d, rfl, k, rb, e, q⟩ := h
  cases f with
  | len =>
    cases ds with
    | nil => simp only [bltD] at e; cases e
    | cons d0 ds => cases ds with
      | cons => cases d0 <;> simp only [bltD] at e <;> cases e
      | nil =>
        obtain ⟨v, rfl, r1⟩ := one_of rb
        cases d0 <;> simp only [bltD] at e <;> try cases e
        · obtain ⟨a, vs, rfl, l1, s1, t1⟩ := r1.tup k
          exact call_len pins s σ _ _ us Q I r ⟨_, vs.length, rfl, .inr ⟨vs, s1, rfl⟩, fin_imm (d := .int _) k rfl (by rw [t1.length]; rfl) q⟩
        · obtain ⟨a, vs, rfl, l1, s1, t1⟩ := r1.lst k
          exact call_len pins s σ _ _ us Q I r ⟨_, vs.length, rfl, .inl ⟨vs, SqL.of s1, rfl⟩, fin_imm (d := .int _) k rfl (by rw [t1.length]; rfl) q⟩
  | abs =>
    cases ds with
    | nil => simp only [bltD] at e; cases e
    | cons d0 ds => cases ds with
      | cons => cases d0 <;> simp only [bltD] at e <;> cases e
      | nil =>
        obtain ⟨v, rfl, r1⟩ := one_of rb
        cases d0 <;> simp only [bltD] at e <;> try cases e
        cases r1.int
        exact call_abs pins s σ _ _ us Q I r ⟨_, rfl, fin_imm (d := .int _) k rfl rfl q⟩
  | max2 =>
    cases ds with
    | nil => simp only [bltD] at e; cases e
    | cons d0 ds => cases ds with
      | nil => cases d0 <;> simp only [bltD] at e <;> cases e
      | cons d1 ds => cases ds with
        | cons => cases d0 <;> cases d1 <;> simp only [bltD] at e <;> cases e
        | nil =>
          obtain ⟨v, v', rfl, r1, r2⟩ := two_of rb
          cases d0 <;> cases d1 <;> simp only [bltD] at e <;> try cases e
          cases r1.int
          cases r2.int
          exact call_max2 hc pins s σ _ _ us Q I r ⟨_, _, rfl, fin_imm (d := .int _) k rfl rfl q⟩
  | all =>
    cases ds with
    | nil => simp only [bltD] at e; cases e
    | cons d0 ds => cases ds with
      | cons => cases d0 <;> simp only [bltD] at e <;> cases e
      | nil =>
        obtain ⟨v, rfl, r1⟩ := one_of rb
        cases d0 <;> simp only [bltD] at e <;> try cases e
        obtain ⟨b, hb, rfl⟩ := Option.map_eq_some_iff.mp e
        simp only [allB] at hb
        split at hb <;> cases hb
        rename_i bs hbs
        obtain ⟨a, vs, rfl, l1, s1, t1⟩ := r1.lst k
        have := boolsD_rep hbs t1
        subst this
        exact cr_all hc pins s σ _ _ us Q I r ⟨a, bs, rfl, SqL.of s1, fin_imm (d := .bl _) k rfl rfl q⟩
  | repr =>
    cases ds with
    | nil => simp only [bltD] at e; cases e
    | cons d0 ds => cases ds with
      | cons => cases d0 <;> simp only [bltD] at e <;> cases e
      | nil =>
        obtain ⟨v, rfl, r1⟩ := one_of rb
        have e : (if d0.fit DEEP = true ∧ d0.toPy.showable = true ∧ d0.toPy.shown.length ≤ SZ then some (.str d0.toPy.shown) else none) = some d := by
          cases d0 <;> exact e
        split at e <;> cases e
        rename_i hh
        obtain ⟨u1, rfl, rv⟩ := vals1 r
        exact cr_repr hu hg k hh.1 hh.2.1 hh.2.2 I r1 rv (fin_imm (d := .str _) k rfl rfl q)
  | tuple =>
    cases ds with
    | nil => simp only [bltD] at e; cases e
    | cons d0 ds => cases ds with
      | cons => cases d0 <;> simp only [bltD] at e <;> cases e
      | nil =>
        obtain ⟨v, rfl, r1⟩ := one_of rb
        cases d0 <;> simp only [bltD] at e <;> try cases e
        obtain ⟨a, vs, rfl, l1, s1, t1⟩ := r1.lst k
        exact call_tuple_of pins s σ _ _ us Q I r ⟨a, vs, rfl, .inl ⟨SqL.of s1, fin_tup k l1 t1 q⟩⟩
  | list =>
    cases ds with
    | nil => simp only [bltD] at e; cases e
    | cons d0 ds => cases ds with
      | cons => cases d0 <;> simp only [bltD] at e <;> cases e
      | nil =>
        obtain ⟨v, rfl, r1⟩ := one_of rb
        cases d0 <;> simp only [bltD] at e <;> try cases e
        · obtain ⟨a, vs, rfl, l1, s1, t1⟩ := r1.tup k
          exact call_list_of pins s σ _ _ us Q I r ⟨a, vs, rfl, .inr s1, fin_lst k l1 t1 q⟩
        · obtain ⟨a, vs, rfl, l1, s1, t1⟩ := r1.lst k
          exact call_list_of pins s σ _ _ us Q I r ⟨a, vs, rfl, .inl (SqL.of s1), fin_lst k l1 t1 q⟩
        · obtain ⟨a, vs, rfl, l1, s1, t1⟩ := r1.imm rfl
          exact call_list_of pins s σ _ _ us Q I r ⟨a, vs, rfl, .inl (SqL.up k.sub s1), fin_lst k l1 t1 q⟩
  | int =>
    cases ds with
    | nil => simp only [bltD] at e; cases e
    | cons d0 ds => cases ds with
      | cons => cases d0 <;> simp only [bltD] at e <;> cases e
      | nil =>
        obtain ⟨v, rfl, r1⟩ := one_of rb
        cases d0 <;> simp only [bltD] at e <;> try cases e
        cases r1.int
        exact call_int1 pins s σ _ _ us Q I r (.inl ⟨_, rfl, fin_imm (d := .int _) k rfl rfl q⟩)
  | rng1 =>
    cases ds with
    | nil => simp only [bltD] at e; cases e
    | cons d0 ds => cases ds with
      | cons => cases d0 <;> simp only [bltD] at e <;> cases e
      | nil =>
        obtain ⟨v, rfl, r1⟩ := one_of rb
        cases d0 <;> simp only [bltD] at e <;> try cases e
        split at e <;> cases e
        cases r1.int
        refine cr_range1 pins s σ _ _ us Q I r ⟨_, rfl, fun p hp => ?_⟩
        obtain ⟨l, o⟩ := newFix k (o := .rng 0 _) hp
        exact q _ _ l o rfl (.inl ⟨rfl, p, rfl, upd_same⟩)

/-! ### isinstance -/
def tyN : Ty → String
  | .int => "int" | .bool => "bool" | .tuple => "tuple" | .str => "str"
theorem isi_D {K : PySem.W.Frag} {w : Wd} (k : Ok K w) {t : Ty} {d : D} {v : V} {b : Bool} (r : RepB K w d v) (e : isiD t d = some b) : ∃ n, TyX K w.H v (.type n) ∧ PySem.W.kitOne K (.type n) (.type (tyN t)) = some b := by
  cases d with
  | non => cases r.non; refine ⟨_, .base .non, kit_ty ?_⟩; cases t <;> cases e <;> decide +kernel
  | bl x => cases r.bl; refine ⟨_, .base (.bl _), kit_ty ?_⟩; cases t <;> cases e <;> decide +kernel
  | int x => cases r.int; refine ⟨_, .base (.int _), kit_ty ?_⟩; cases t <;> cases e <;> decide +kernel
  | str x => cases r.str; refine ⟨_, .base (.str _), kit_ty ?_⟩; cases t <;> cases e <;> decide +kernel
  | tup ds =>
    obtain ⟨a, vs, rfl, l1, s1, t1⟩ := r.tup k
    refine ⟨"tuple", ?_, kit_ty ?_⟩
    · rcases s1 with (h | ⟨o, h⟩) | ⟨o, its, n, h1, h2, _⟩
      · exact .base (.tup h)
      · exact .fTuple h
      · exact .kTuple h1 h2
    · cases t <;> cases e <;> decide +kernel
  | lst ds =>
    obtain ⟨a, vs, rfl, l1, s1, t1⟩ := r.lst k
    refine ⟨"list", .base (.lst s1), kit_ty ?_⟩
    cases t <;> cases e <;> decide +kernel
  | rng _ _ => cases t <;> cases e
  | ref _ => cases t <;> cases e
  | scr _ => cases t <;> cases e

/-! ### what is walked -/
/-- a value that is walked: a list, a tuple, a range -/
def iAny (K : PySem.W.Frag) (t : TE) : TI := fun σ H R => t σ H fun x H1 =>
  (∃ a xs, x = .ref a ∧ SqL K H1 a xs ∧ R (Itl K a) H1) ∨ (∃ a xs, x = .ref a ∧ SqT K H1 a xs ∧ R (Itt K a) H1) ∨
  (∃ a lo hi, x = .ref a ∧ H1 a = some (.rng lo hi) ∧ -(2 ^ 62) ≤ lo ∧ lo < 2 ^ 62 ∧ -(2 ^ 62) ≤ hi ∧ hi < 2 ^ 62 ∧ R (Itr lo (hi - lo).toNat) H1)
theorem pi_any {tg l : Expr} {tl : TE} (hl : PE X l tl) : PI X tg l (iAny X.K tl) := by
  refine ⟨fun pins s σ H R I h => ?_⟩
  refine thn (hl.run pins s σ H _ I h) fun v s1 ⟨x, H1, I1, r1, q1⟩ => ?_
  rcases q1 with ⟨a, xs, e, hq, q⟩ | ⟨a, xs, e, hq, q⟩ | ⟨a, lo, hi, e, hq, h1, h2, h3, h4, q⟩
  · subst e
    cases r1
    obtain ⟨its, rv, p, hz⟩ := I1.list hq
    refine wpAny_pyIter_list p.isList ?_
    refine ⟨s1.heap.objs.size, [s1.heap.objs.size], _, _, H1, rfl, I1.kept (t' := s1.toks) fun b o e => Heap.get?_push_of_some _ e, turn_list a _, ⟨_, Heap.get?_push_size _ rfl, rfl, rfl⟩, fun b hb => ?_, q⟩
    have e : b = s1.heap.objs.size := by simpa using hb
    subst e
    exact I1.fpOk (Nat.le_refl _) (I1.hok.fresh (Nat.le_refl _))
  · subst e
    cases r1
    obtain ⟨its, rv, p, hz⟩ := I1.tuple hq
    refine wpAny_pyIter_tuple (show s1.heap.IsTuple a its.toArray from p) ?_
    refine ⟨s1.heap.objs.size, [s1.heap.objs.size], _, _, H1, rfl, I1.kept (t' := s1.toks) fun b o e => Heap.get?_push_of_some _ e, turn_tuple a _, ⟨_, Heap.get?_push_size _ rfl, rfl, rfl⟩, fun b hb => ?_, q⟩
    have e : b = s1.heap.objs.size := by simpa using hb
    subst e
    exact I1.fpOk (Nat.le_refl _) (I1.hok.fresh (Nat.le_refl _))
  · subst e
    cases r1
    obtain ⟨t, u, v, ho⟩ : ∃ t u v, s1.heap.get? a = some { cls := .type "range", data := .fields #[.int lo t, .int hi u, .int 1 v] } := I1.hok _ _ hq
    have hr : IsRange s1.heap a lo hi 1 t u v := ho
    refine wpAny_pyIter_range hr (small_one h1 h2 h3 h4) ?_
    refine ⟨s1.heap.objs.size, [s1.heap.objs.size], _, _, H1, rfl, I1.kept (t' := s1.toks) fun b o e => Heap.get?_push_of_some _ e, turn_range _ lo (hi - lo).toNat, ?_, fun b hb => ?_, q⟩
    · have e1 : lo + ((0 : Nat) : Int) * 1 = lo := by simp
      have e2 : (((hi - lo).toNat : Nat) : Int) - ((0 : Nat) : Int) = Builtin.Range.rangeSize lo hi 1 := by rw [rangeSize_one]; split <;> omega
      show IsRangeIter _ _ (lo + ((0 : Nat) : Int) * 1) ((((hi - lo).toNat : Nat) : Int) - ((0 : Nat) : Int)) 1
      rw [e1, e2]
      exact Heap.get?_push_size _ rfl
    · have e : b = s1.heap.objs.size := by simpa using hb
      subst e
      exact I1.fpOk (Nat.le_refl _) (I1.hok.fresh (Nat.le_refl _))

/-! ### walks over plain data -/
/-- what grows: frozen things, boxes -/
structure Lz (w w' : Wd) : Prop where
  z : Same w.Z w'.Z
  b : ∀ (n : Nat) (a : Addr), w.B[n]? = some a → w'.B[n]? = some a
theorem Le.lz {w w' : Wd} (l : Le w w') : Lz w w' := ⟨l.z, l.bget⟩
theorem Lz.refl {w : Wd} : Lz w w := ⟨Same.refl _, fun _ _ h => h⟩
theorem Lz.trans {w w1 w2 : Wd} (a : Lz w w1) (b : Lz w1 w2) : Lz w w2 := ⟨a.z.trans b.z, fun n c h => b.b n c (a.b n c h)⟩
/-- J walks ds, however the heap grows -/
structure JOk (K : PySem.W.Frag) (w : Wd) (J : It) (ds : List D) : Prop where
  len : ds.length ≤ SZ
  go : ∀ (w1 : Wd) (i : Nat), Lz w w1 → Ok K w1 → i < ds.length → J.go i w1.H
  stop : ∀ (w1 : Wd) (i : Nat), Lz w w1 → Ok K w1 → ds.length ≤ i → J.stop i w1.H
  yld : ∀ (w1 : Wd) (i : Nat) (x : V) (H' : Hp) (d : D), Lz w w1 → Ok K w1 → J.yld i w1.H x H' → ds[i]? = some d → ∃ w2, Le w1 w2 ∧ Ok K w2 ∧ w2.bx = w1.bx ∧ w2.H = H' ∧ Rep K w2.Z w2.B d x
theorem rangeD_len : ∀ (n : Nat) (lo : Int), (rangeD lo n).length = n
  | 0, _ => rfl
  | n + 1, lo => by rw [rangeD, List.length_cons, rangeD_len n]
theorem rangeD_get : ∀ (n : Nat) (lo : Int) (i : Nat), i < n → (rangeD lo n)[i]? = some (.int (lo + i))
  | 0, _, _, h => by omega
  | n + 1, lo, 0, _ => by simp [rangeD]
  | n + 1, lo, i + 1, h => by
    rw [rangeD, List.getElem?_cons_succ, rangeD_get n (lo + 1) i (by omega)]
    congr 2
    omega
theorem enumD_len : ∀ (ds : List D) (n : Nat), (enumD n ds).length = ds.length
  | [], _ => rfl
  | d :: ds, n => by rw [enumD, List.length_cons, List.length_cons, enumD_len ds]
theorem enumD_get : ∀ (ds : List D) (n i : Nat) (d : D), ds[i]? = some d → (enumD n ds)[i]? = some (.tup [.int ((n + i : Nat) : Int), d])
  | [], _, _, _, h => by simp at h
  | _ :: ds, n, 0, d, h => by simp at h; subst h; simp [enumD]
  | _ :: ds, n, i + 1, d, h => by
    rw [enumD, List.getElem?_cons_succ, enumD_get ds (n + 1) i d (by simpa using h)]
    rw [show n + 1 + i = n + (i + 1) by omega]
section
variable {K : PySem.W.Frag} {w : Wd}
theorem jok_tup {a : Addr} {ds : List D} (r : Rep K w.Z w.B (.tup ds) (.ref a)) : JOk K w (Itt K a) ds := by
  obtain ⟨a', vs, e, hl, s, t⟩ := r
  cases e
  have at_ : ∀ w1, Lz w w1 → Ok K w1 → SqT K w1.H a vs := fun w1 l k => SqT.up k.sub (SqT.up l.z s)
  refine ⟨hl, fun w1 i l k h => ?_, fun w1 i l k h => ⟨vs, at_ w1 l k, by rw [← t.length]; exact h⟩, fun w1 i x H' d l k h hd => ?_⟩
  · have hi : i < vs.length := by rw [← t.length]; exact h
    exact ⟨vs, vs[i], at_ w1 l k, List.getElem?_eq_getElem hi⟩
  · obtain ⟨rfl, hx⟩ := h
    obtain ⟨v, hv, rv⟩ := t.get hd
    have := hx vs (at_ w1 l k)
    rw [hv] at this
    cases this
    exact ⟨w1, Le.refl k, k, rfl, rfl, rv.up l.z l.b⟩
theorem jok_lst {a : Addr} {ds : List D} (r : Rep K w.Z w.B (.lst ds) (.ref a)) : JOk K w (Itl K a) ds := by
  obtain ⟨a', vs, e, hl, s, t⟩ := r
  cases e
  have at_ : ∀ w1, Lz w w1 → Ok K w1 → SqL K w1.H a vs := fun w1 l k => SqL.of (k.sub _ _ (l.z _ _ s))
  refine ⟨hl, fun w1 i l k h => ?_, fun w1 i l k h => ⟨vs, at_ w1 l k, by rw [← t.length]; exact h⟩, fun w1 i x H' d l k h hd => ?_⟩
  · have hi : i < vs.length := by rw [← t.length]; exact h
    exact ⟨vs, vs[i], at_ w1 l k, List.getElem?_eq_getElem hi⟩
  · obtain ⟨rfl, hx⟩ := h
    obtain ⟨v, hv, rv⟩ := t.get hd
    have := hx vs (at_ w1 l k)
    rw [hv] at this
    cases this
    exact ⟨w1, Le.refl k, k, rfl, rfl, rv.up l.z l.b⟩
theorem jok_rng {lo : Int} {n : Nat} (hn : n ≤ SZ) : JOk K w (Itr lo n) (rangeD lo n) := by
  refine ⟨by rw [rangeD_len]; exact hn, fun w1 i l k h => ?_, fun w1 i l k h => ?_, fun w1 i x H' d l k h hd => ?_⟩
  · rw [rangeD_len] at h; exact h
  · rw [rangeD_len] at h; exact h
  · obtain ⟨rfl, rfl⟩ := h
    have hi : i < n := by
      have := (List.getElem?_eq_some_iff.mp hd).1
      rw [rangeD_len] at this
      exact this
    rw [rangeD_get n lo i hi] at hd
    cases hd
    exact ⟨w1, Le.refl k, k, rfl, rfl, rfl⟩
theorem jok_enum {a : Addr} {ds : List D} (r : Rep K w.Z w.B (.lst ds) (.ref a)) : JOk K w (Ite K a) (enumD 0 ds) := by
  obtain ⟨a', vs, e, hl, s, t⟩ := r
  cases e
  have at_ : ∀ w1, Lz w w1 → Ok K w1 → SqL K w1.H a vs := fun w1 l k => SqL.of (k.sub _ _ (l.z _ _ s))
  refine ⟨by rw [enumD_len]; exact hl, fun w1 i l k h => ?_, fun w1 i l k h => ⟨vs, at_ w1 l k, by rw [← t.length]; rw [enumD_len] at h; exact h⟩, fun w1 i x H' d l k h hd => ?_⟩
  · rw [enumD_len] at h
    have hi : i < vs.length := by rw [← t.length]; exact h
    exact ⟨vs, vs[i], at_ w1 l k, List.getElem?_eq_getElem hi⟩
  · obtain ⟨T, y, rfl, hT, rfl, hx⟩ := h
    have hy := hx vs (at_ w1 l k)
    obtain ⟨d', hd', rd⟩ := t.get' hy
    rw [enumD_get ds 0 i d' hd'] at hd
    cases hd
    have rd1 : Rep K w1.Z w1.B d' y := rd.up l.z l.b
    obtain ⟨w2, l2, o2, e2, h2, r2⟩ := newTup k hT (by show 2 ≤ 16777216; decide) (ds := [.int ((0 + i : Nat) : Int), d']) (vs := [.int (i : Nat), y]) ⟨_, _, rfl, by rw [Nat.zero_add]; rfl, _, _, rfl, rd1, rfl⟩
    exact ⟨w2, l2, o2, e2, h2, r2⟩
end
/-- a walk's reading -/
def tI (K : PySem.W.Frag) (kd : List Bool) (e0 : Hp) (f : Env → Bx → Option (List D × Bx)) : TI := fun σ H R => ∃ (w : Wd) (ρ : Env) (ds : List D) (b : Bx), w.H = H ∧ Ok K w ∧ EnvOk K kd e0 w σ ρ ∧ f ρ w.bx = some (ds, b) ∧
  ∀ (w' : Wd) (J : It), Le w w' → Ok K w' → w'.bx = b → JOk K w' J ds → R J w'.H
theorem _root_.L2.PI.imp {tg e : Expr} {t t' : TI} (h : PI X tg e t) (f : ∀ σ H Q, t' σ H Q → t σ H Q) : PI X tg e t' := ⟨fun pins s σ H Q I q => h.run pins s σ H Q I (f _ _ _ q)⟩
end
end Dk

set_option autoImplicit false
set_option linter.all false
set_option Elab.async false
set_option maxRecDepth 100000
set_option maxHeartbeats 2000000
/-! DkFn: promises of defs where no repr is under way (guards none); calls, a def's body, the law's end by them. Own work. -/
namespace Dk
open PySem PySem.Spec PyProof.Rows L2

structure FnG (P : Program) (w : World) (K : PySem.W.Frag) (mg : Str → Option Value) (base : Heap) (k : Nat) (f : Addr) (fd : FuncData) (ps : List Str) (sp : Sp) : Prop where
  n : ∀ vs H Q E, sp vs H Q E → vs.length = ps.length
  go : ∀ (A : Around) (out : List PySem.Env) (s : Shared) (H : Hp) (ar : Args) (us : List Value) (vs : List V) (Q : VK) (E : XK), (Room k A ∧ A.guards = some []) → Env0 P w K mg base A out s H → BindsTo s fd ar (ps.zip us) → Vals vs us → sp vs H Q E →
    codeAny (model P w) A (.call (.ref f) ar) (CR CX0 out P w H s Q E) s

section
variable {X : Cx} {k : Nat} {f : Addr} {fd : FuncData} {ps : List Str} {sp : Sp} {x : Str} {p pos : Pos} {e : Expr} {es : List Expr} {t : TA}
/-- the callee, run from this body -/
theorem FnG.here {pins : List (Addr × Obj)} {σ : St} {H : Hp} {s : Shared} {Q : VK} {us : List Value} {vs : List V} (F : FnG X.prog X.w X.K X.mg X.base k f fd ps sp) (ok : Room k X.A ∧ X.A.guards = some []) (b : Binds X.K fd ps []) (I : Inv X pins σ H s) (r : Vals vs us) (q : sp vs H Q E0) :
    wpAny (model X.prog X.w) X.A (call (.ref f) us) (EP X pins σ Q) X.xe s := by
  have n1 : us.length = ps.length := r.length.symm.trans (F.n _ _ _ _ q)
  have b1 := b s us I.kIn
  rw [List.append_nil] at b1
  refine wpAny_call (codeAny_mono (F.go X.A X.stack s H ⟨us, []⟩ us vs Q E0 ok I.env0 (b1 n1) r q) ?_)
  rintro (er | fl) s' c
  · exact c.elim
  · match fl, c with
    | .ret u, c => exact I.after c
theorem pe_own (F : FnG X.prog X.w X.K X.mg X.base k f fd ps sp) (ok : Room k X.A ∧ X.A.guards = some []) (g : Gl X x) (m : X.mg x = some (.ref f)) (kp : PySem.W.keepIn X.K (.ref f) = true) (b : Binds X.K fd ps []) (a : PA X (e :: es) t) (hdb : (x == ("__debug__" : Str)) = false)
    (h1 : starEach (e :: es) X.env = (false, eval e X.env) :: starEach es X.env) (h2 : (backTo pos (starEach es X.env)).any (·.1) = false) : PE X (.Call (.Name x p) (e :: es) [] pos) (fun σ H Q => t σ H fun vs H1 => sp vs H1 Q E0) := by
  constructor
  intro pins s σ H Q I h
  exact wpAny_Call_Name_kw (ld_glob I g m (PySem.W.callWith_K (h₀ := X.base) I.ok.mod.kin kp (thn (a.run pos pins s σ H _ I h) fun us s1 ⟨vs, H1, I1, r, q⟩ => ⟨I1.kIn, F.here ok b I1 r q⟩) h1 h2) hdb)
theorem pe_own0 (F : FnG X.prog X.w X.K X.mg X.base k f fd ps sp) (ok : Room k X.A ∧ X.A.guards = some []) (g : Gl X x) (m : X.mg x = some (.ref f)) (kp : PySem.W.keepIn X.K (.ref f) = true) (b : Binds X.K fd ps []) (hdb : (x == ("__debug__" : Str)) = false) :
    PE X (.Call (.Name x p) [] [] pos) (fun σ H Q => sp [] H Q E0) := by
  constructor
  intro pins s σ H Q I h
  exact wpAny_Call_Name_kw (ld_glob I g m (PySem.W.callWith_K0 I.kIn kp (F.here (us := []) ok b I .nil h)) hdb)
end

/-- a def of the text by its body -/
theorem FnG.of {P : Program} {w : World} {K : PySem.W.Frag} {mg : Str → Option Value} {base : Heap} {k : Nat} {f : Addr} {x qual : Str} {pa : Arguments} {bd : List Stmt} {sc : Scope} {fd : FuncData} {N ps : List Str} {sp : Sp} (F : FunD K x qual pa bd sc [] [] f fd) (S : FnScope N ps sc)
    (n : ∀ vs H Q E, sp vs H Q E → vs.length = ps.length)
    (body : ∀ (cdv : Value) (A : Around) (out : List PySem.Env) (s : Shared) (H : Hp) (vs : List V) (Q : VK) (E : XK), Room k (A.deeper (envOfC qual sc s.heap.objs.size f cdv)) → A.guards = some [] → sp vs H Q E →
      ∃ t, PSs (cxOf CX0 P w K mg base N qual sc f cdv A out s H E) bd t ∧ t { nx := fun _ H' => Q .non H', rt := Q } (L2.start N vs) H) : FnG P w K mg base (k + 1) f fd ps sp := by
  obtain ⟨oc, od, dV, kV, doc, pm, an, cdv, ct, osl, rfl, lk, cd, _, _⟩ := F.ex
  constructor
  · exact n
  intro A out s H ar us vs Q E ⟨rm, gd⟩ e0 b r q
  have up := e0.bs
  have lim : s.heap.NoLimit := e0.mod.nolimit.keeps fun b o e => (up b o e).1
  have kin : K.In s.heap := e0.mod.kin.keeps fun b o e => (up b o e).1
  refine codeAny_call_function rm.depth (kin _ _ lk) rfl S.co S.gen rfl (PySem.W.codeRec_of kin cd) (b _ _ _ _ (wpAny_newFunctionEnv_cells S.kind (fun y hy => ?_) fun env he s1 st => ?_))
  · have py := S.par y.1 (List.of_mem_zip hy).1
    exact py.imp id fun c => ⟨c, PySem.W.cellsFrom_some _ _ _ (.inl c)⟩
  · subst he
    refine ⟨lim.keeps st.toInCall.keep, codeAny_func ?_⟩
    obtain ⟨t, tb, tq⟩ := body cdv A out s H vs Q E (rm.deeper _) gd q
    refine wpAny_mono (tb.run [] s1 (L2.start N vs) H _ (inv_start S rm.hd e0 (n _ _ _ _ q) r st) tq) ?_ fun _ _ z => z
    rintro fl s' z
    match fl, z with
    | .ret u, ⟨v, _, H', J, rv, c⟩ => exact ⟨v, H', J.os, J.bare, J.base, J.hok, rv, c⟩
    | .next, ⟨_, H', J, c⟩ => exact ⟨.non, H', J.os, J.bare, J.base, J.hok, rfl, c⟩
    | .brk, ⟨_, _, _, c⟩ => exact c.elim
    | .cont, ⟨_, _, _, c⟩ => exact c.elim

/-! ### the law's end -/
section
variable {P : Program} {w : World} {K : PySem.W.Frag} {mg mb : Str → Option Value} {k : Nat} {fa a : Addr} {fd : FuncData} {x : Str} {sp : Sp} {s : Shared} {vs : List Value} {ns : List Int}
/-- a heap of which only the script may be told -/
theorem end_at (kin : K.In s.heap) (gn : s.heap.Ns mainGlobals mg) (bn : s.heap.Ns builtinsNs mb) (bb : ∀ x : Str, x ≠ "__name__" → mb x = bootBuiltins x) (nl : s.heap.NoLimit) (gs : s.gens = #[]) (sc : s.heap.get? a = some { cls := .type "list", data := .seq vs.toArray })
    (rm : Room k callerA) (F : ∀ base : Heap, K.In base → base.Ns mainGlobals mg → FnG P w K mg base k fa fd [x] sp) (bi : ∀ (s : Shared) (u : Value), BindsTo s fd ⟨[u], []⟩ [(x, u)])
    (H : Hp) (on : ∀ b, H b = none ∨ (b = a ∧ ∃ o xs, H b = some (.frz o (.lst xs)))) (q : sp [.ref a] H (fun v _ => v = .bl true) E0) (ok : HOk P w H s.heap) (ka : H a ≠ none → K.lookup a = none) :
    codeAny (model P w) callerA (.call (.ref fa) ⟨[.ref a], []⟩) (fun r s' => r = .ok (.ret (.bool true)) ∧ OldK s.heap s'.heap ∧ s'.os = s.os ∧ AllBare s'.gens) s := by
  have told : ∀ {b : Addr}, H b ≠ none → b = a := fun {b} h => by
    rcases on b with z | z
    · exact (h z).elim
    · exact z.1
  have hid : ∀ {b : Addr} {o : Obj}, s.heap.get? b = some o → (H b ≠ none → False) → (hidT s.heap H).get? b = some o := fun {b o} e h => hidT_get e (Classical.byContradiction h)
  have dict : ∀ {b : Addr} {m : Str → Option Value}, s.heap.Ns b m → (hidT s.heap H).Ns b m := by
    rintro b m ⟨o, es, ep, e, d, r⟩
    refine ⟨o, es, ep, hid e fun h => ?_, d, r⟩
    cases told h
    rw [sc] at e
    cases e
    cases d
  have part : K.In (hidT s.heap H) := fun b o e => hid (kin b o e) fun h => by
    cases told h
    rw [ka h] at e
    cases e
  obtain ⟨ml, l1, l2⟩ := nl
  have env : Env0 P w K mg (hidT s.heap H) callerA [] s H := by
    refine ⟨rfl, ⟨part, dict gn, ⟨mb, dict bn, bb⟩, ⟨ml, dict l1, l2⟩⟩, fun b o e => of_hidT e, Nat.le_of_eq (hidT_size _ _), trivial, fun b h => ?_, ok, .of_eq gs⟩
    cases (show b ∈ ([] : List Addr) from h)
  refine codeAny_mono ((F _ part (dict gn)).go callerA [] s H ⟨[.ref a], []⟩ [.ref a] [.ref a] _ _ ⟨rm, rfl⟩ env (bi s (.ref a)) (.cons rfl .nil) q) ?_
  rintro (er | fl) s' c
  · exact c.elim
  · match fl, c with
    | .ret u, ⟨v, H', os, bare, un, ok', rv, (hv : v = .bl true)⟩ =>
      subst hv
      have hu : u = Value.bool true := rv
      refine ⟨by rw [hu], OldK.of_keep fun b o e => ?_, os, bare⟩
      rcases on b with z | ⟨_, o1, xs, z⟩
      · exact un.keep b o e z (fun h => by cases (show b ∈ ([] : List Addr) from h)) (fun h => by cases h)
      · have p1 := (ok b _ z).1
        have p2 := (ok' b _ (un.frzs b o1 _ z)).1
        rw [p1] at e
        cases e
        exact p2
theorem end_call (kin : K.In s.heap) (gn : s.heap.Ns mainGlobals mg) (bn : s.heap.Ns builtinsNs mb) (bb : ∀ x : Str, x ≠ "__name__" → mb x = bootBuiltins x) (nl : s.heap.NoLimit) (gs : s.gens = #[]) (sc : s.heap.get? a = some { cls := .type "list", data := .seq vs.toArray })
    (it : IntsAre vs ns) (len : ns.length ≤ sizeLine) (rm : Room k callerA) (F : ∀ base : Heap, K.In base → base.Ns mainGlobals mg → FnG P w K mg base k fa fd [x] sp) (bi : ∀ (s : Shared) (u : Value), BindsTo s fd ⟨[u], []⟩ [(x, u)])
    (q : ∀ H : Hp, SqL K H a (ns.map V.int) → sp [.ref a] H (fun v _ => v = .bl true) E0) :
    codeAny (model P w) callerA (.call (.ref fa) ⟨[.ref a], []⟩) (fun r s' => r = .ok (.ret (.bool true)) ∧ OldK s.heap s'.heap ∧ s'.os = s.os ∧ AllBare s'.gens) s := by
  have val := vals_ints it
  cases lk : K.lookup a with
  | some o =>
    have e := kin a o lk
    rw [sc] at e
    cases e
    refine end_at kin gn bn bb nl gs sc rm F bi (fun _ => none) (fun _ => .inl rfl) (q _ (.inr ⟨_, vs.toArray, _, lk, rfl, rfl, rfl, ?_, by simpa using val⟩)) (fun b u z => by cases (show (none : Option HO) = some u from z)) fun z => (z rfl).elim
    rw [List.size_toArray, it.length]
    exact len
  | none =>
    have here : ∀ {b : Addr} {o : HO}, (if b = a then some (HO.frz { cls := .type "list", data := .seq vs.toArray } (.lst (ns.map V.int))) else none) = some o → b = a ∧ o = .frz { cls := .type "list", data := .seq vs.toArray } (.lst (ns.map V.int)) := fun {b o} z => by
      split at z
      · rename_i h
        cases z
        exact ⟨h, rfl⟩
      · cases z
    refine end_at kin gn bn bb nl gs sc rm F bi (fun b => if b = a then some (HO.frz { cls := .type "list", data := .seq vs.toArray } (.lst (ns.map V.int))) else none) (fun b => ?_) (q _ (.inl (.inr ⟨{ cls := .type "list", data := .seq vs.toArray }, if_pos rfl⟩))) (fun b u z => ?_) fun _ => lk
    · by_cases h : b = a
      · exact .inr ⟨h, _, _, if_pos h⟩
      · exact .inl (if_neg h)
    · obtain ⟨rfl, rfl⟩ := here z
      exact ⟨sc, by rw [List.length_map]; exact len, vs, _, val, sc⟩
end
theorem end_law {l : PySem.W.OpenLaw} {n k : Nat} {q : Program} {loose : List Str} {XP : (Str → Option Value) → Heap → Prop} {YP : World → Heap → Prop} {d : DefRec} {x : Str} (hn : l.most = some n) (hn2 : n ≤ sizeLine) (hdf : d.params.defaults = []) (hr : Room k callerA)
    (F : ∀ (w : World) (mg : Str → Option Value) (fa : Addr) (h : Heap), YP w h → h.Ns mainGlobals mg → mg d.name = some (.ref fa) → ∃ (K : PySem.W.Frag) (fd : FuncData) (sp : Sp), K.In h ∧ (∀ (s : Shared) (u : Value), BindsTo s fd ⟨[u], []⟩ [(x, u)]) ∧
      (∀ (H : Hp) (a : Addr) (ns : List Int), ns.length ≤ n → SqL K H a (ns.map V.int) → sp [.ref a] H (fun v _ => v = .bl true) E0) ∧ ∀ base : Heap, K.In base → base.Ns mainGlobals mg → FnG l.prog w K mg base k fa fd [x] sp) : PySem.W.WalkO q loose XP YP l.row.toRowW d [] (fun f vs => PySem.call f vs) := by
  refine Att.attach_call hn hdf fun wd t₀ t₁ mg mb f1 ob pm cd dc ad us zs Gr Y ho hd hcd hmg hobj hints hlen hgn => ?_
  obtain ⟨K, fd, sp, kin, bi, hs, hF⟩ := F wd mg f1 _ Y Gr.T.g hmg
  exact end_call kin Gr.T.g Gr.T.b Gr.T.builtins Gr.T.nolimit hgn hobj hints (Nat.le_trans hlen hn2) hr hF bi fun H => hs H ad zs hlen
end Dk

set_option autoImplicit false
set_option linter.all false
set_option Elab.async false
set_option maxRecDepth 100000
set_option maxHeartbeats 2000000
/-! DkExp: the text's expressions held against terms (ck), and what that gives. Own work. -/
namespace Dk
open PySem PySem.Spec PyProof.Rows L2

/-! ### small facts of the text -/
def noStar : Expr → Bool
  | .Starred .. => false
  | _ => true
def noSlice : Expr → Bool
  | .Slice .. => false
  | _ => true
def noSet : Expr → Bool
  | .Set .. => false
  | _ => true
/-- as a test it is just its value's truth -/
def isPlain : Expr → Bool
  | .UnaryOp .Not _ _ => false
  | .BoolOp .. => false
  | .IfExp .. => false
  | .Compare .. => false
  | _ => true
theorem star_cons {e : Expr} {es : List Expr} {env : PySem.Env} (h : noStar e = true) : starEach (e :: es) env = (false, eval e env) :: starEach es env := by
  cases e <;> first | rfl | cases h
theorem star_any {env : PySem.Env} {pos : Pos} : ∀ {es : List Expr}, es.all noStar = true → (backTo pos (starEach es env)).any (·.1) = false
  | [], _ => rfl
  | e :: es, h => by
    rw [List.all_cons, Bool.and_eq_true] at h
    rw [star_cons h.1]
    have ih := star_any (env := env) (pos := pos) h.2
    unfold backTo at ih ⊢
    rw [List.map_cons, List.any_cons, ih]
    rfl
theorem asg_cons {e : Expr} {es : List Expr} {env : PySem.Env} (h : noStar e = true) : assignEach (e :: es) env = (false, assign e env) :: assignEach es env := by
  cases e <;> first | rfl | cases h
theorem asg_len {env : PySem.Env} : ∀ {es : List Expr}, es.all noStar = true → (assignEach es env).length = es.length
  | [], _ => rfl
  | e :: es, h => by
    rw [List.all_cons, Bool.and_eq_true] at h
    rw [asg_cons h.1, List.length_cons, List.length_cons, asg_len h.2]
theorem asg_star {env : PySem.Env} : ∀ {es : List Expr}, es.all noStar = true → List.findIdx? (fun x => x.1) (assignEach es env) = none
  | [], _ => rfl
  | e :: es, h => by
    rw [List.all_cons, Bool.and_eq_true] at h
    rw [asg_cons h.1, List.findIdx?_cons, asg_star h.2]
    rfl
theorem plain_true {e : Expr} {env : PySem.Env} (h : isPlain e = true) (whole : Sem Value) : isTrue e env whole = (do let v ← whole; standAt e.pos; holding [v] (truthy v)) := by
  cases e <;> first | rfl | cases h | skip
  case UnaryOp op x p => cases op <;> first | rfl | cases h
theorem plain_ix {e : Expr} (h : noSlice e = true) : PlainIx e := fun o i => by
  cases e <;> first | rfl | cases h
theorem set_iter {e : Expr} {env : PySem.Env} (h : noSet e = true) (x : Value) : foldedSetIterable e env x = pure x := by
  cases e <;> first | rfl | cases h
theorem chain_marks (op op' : Cop) (b c : Expr) : lastMarks [copA op, copA op'] [b, c] = false := cop_mark op' c

/-! ### what a proof knows of a module -/
structure Gam where
  N : List Str
  kd : List Bool
  gls : List Str
  G : Nat → Option D
  fns : List (Str × Nat)
  fr : Nat → Bool
def isScal : D → Bool
  | .non => true
  | .bl _ => true
  | .int _ => true
  | .str _ => true
  | _ => false
theorem isScal_imm {d : D} (h : isScal d = true) : isImm d = true := by cases d <;> first | rfl | cases h
def bltNames : List Str := ["len", "abs", "max", "all", "tuple", "list", "int", "range", "isinstance", "enumerate", "bool", "str", "repr"]
structure Cond (Γ : Gam) (F : Nat → List D → Bx → Option (D × Bx)) (k : Nat) (raw sc : Scope) (X : Cx) : Prop where
  N : X.N = Γ.N
  nd : Γ.N.Nodup
  sc : X.env.scope = sc
  calm : X.calm = true
  room : Room k X.A
  gd : X.A.guards = some []
  blt : ∀ x ∈ bltNames, X.mg x = none
  glo : ∀ (g : Nat) (x : Str) (d : D), Γ.gls[g]? = some x → Γ.G g = some d → isScal d = true ∧ ∃ u v, X.mg x = some u ∧ RelV v u ∧ ∀ (Z : Hp) (B : List Addr), Rep X.K Z B d v
  fns : ∀ (f : Nat) (x : Str) (n : Nat), Γ.fns[f]? = some (x, n) → ∃ (fa : Addr) (fd : FuncData) (ps : List Str), ps.length = n ∧ X.mg x = some (.ref fa) ∧ PySem.W.keepIn X.K (.ref fa) = true ∧
    FnG X.prog X.w X.K X.mg X.base k fa fd ps (spD X.K (if Γ.fr f = true then .frs else .val) (F f) n) ∧ Binds X.K fd ps []
  asn : ∀ x, raw.names.lookup x = some .local ∨ raw.names.lookup x = some .cell → Loc X.env.scope x ∧ (X.fn x = true ∨ X.env.scope.names.lookup x = some .local)

def nameAt (Γ : Gam) (i : Nat) (x : Str) : Bool := decide (Γ.N[i]? = some x)
def visB (sc : Scope) (x : Str) : Bool := match sc.names.lookup x with
  | some .local => true
  | some .cell => true
  | some .free => true
  | _ => false
theorem visB_ok {sc : Scope} {x : Str} (h : visB sc x = true) : Vis sc x := by
  unfold visB at h
  split at h <;> first | cases h | skip
  · exact .inl (by assumption)
  · exact .inr (.inl (by assumption))
  · exact .inr (.inr (by assumption))
def locB (sc : Scope) (x : Str) : Bool := match sc.names.lookup x with
  | some .local => true
  | some .cell => true
  | _ => false
theorem locB_ok {sc : Scope} {x : Str} (h : locB sc x = true) : sc.names.lookup x = some .local ∨ sc.names.lookup x = some .cell := by
  unfold locB at h
  split at h <;> first | cases h | skip
  · exact .inl (by assumption)
  · exact .inr (by assumption)
def glB (sc : Scope) (x : Str) : Bool := (match sc.names.lookup x with | some .globalImplicit => true | _ => false) && !(x == ("__debug__" : Str)) && decide (x ≠ ("__name__" : Str))
theorem glB_ok {X : Cx} {sc : Scope} {x : Str} (e : X.env.scope = sc) (h : glB sc x = true) : Gl X x ∧ (x == ("__debug__" : Str)) = false ∧ x ≠ ("__name__" : Str) := by
  unfold glB at h
  simp only [Bool.and_eq_true, decide_eq_true_eq, Bool.not_eq_true'] at h
  obtain ⟨⟨h1, h2⟩, h3⟩ := h
  refine ⟨?_, h2, h3⟩
  show X.env.scope.names.lookup x = some .globalImplicit
  rw [e]
  split at h1
  · assumption
  · cases h1
def dbgB (x : Str) : Bool := !(x == ("__debug__" : Str)) && !(x == ("__classdict__" : Str))
def conB : D → Const → Bool
  | .non, .none => true
  | .bl a, .bool b => a == b
  | .int i, .int j => decide (i = j)
  | .str x, .str y => decide (x = y)
  | _, _ => false

/-! ### targets -/
def slotsT : T → List Nat
  | .nam i => [i]
  | .tup ts => slotsT ts
  | .nil => []
  | .cons t ts => slotsT t ++ slotsT ts
mutual
def ckT (Γ : Gam) (raw : Scope) : T → Expr → Bool
  | .nam i, .Name x _ => nameAt Γ i x && locB raw x && decide (Γ.kd[i]? = some false)
  | .tup ts, .Tuple es _ _ => ckTs Γ raw ts es && es.all noStar
  | _, _ => false
def ckTs (Γ : Gam) (raw : Scope) : T → List Expr → Bool
  | .nil, [] => true
  | .cons t ts, e :: es => ckT Γ raw t e && ckTs Γ raw ts es
  | _, _ => false
end
section
variable {K : PySem.W.Frag} {kd : List Bool} {e0 : Hp} {w : Wd} {σ : St} {ρ : Env}
theorem EnvOk.put {i : Nat} {d : D} {v : V} (h : EnvOk K kd e0 w σ ρ) (hk : kd[i]? = some false) (r : Rep K w.Z w.B d v) : EnvOk K kd e0 w (σ.set i (some v)) (ρ.set i (some d)) where
  ls := by rw [List.length_set]; exact h.ls
  lr := by rw [List.length_set]; exact h.lr
  dat := fun j e h1 h2 => by
    by_cases hj : i = j
    · subst hj
      have hl : i < σ.length := by rw [h.ls]; exact (List.getElem?_eq_some_iff.mp hk).1
      have hr : i < ρ.length := by rw [h.lr]; exact (List.getElem?_eq_some_iff.mp hk).1
      rw [List.getElem?_set_self hr] at h2
      cases h2
      exact ⟨v, List.getElem?_set_self hl, r⟩
    · rw [List.getElem?_set_ne hj] at h2 ⊢
      exact h.dat j e h1 h2
  own := fun j e h1 h2 => by
    have hj : i ≠ j := fun q => by rw [q, h1] at hk; cases hk
    rw [List.getElem?_set_ne hj] at h2 ⊢
    exact h.own j e h1 h2
  sep := fun j l d1 d2 a h1 h2 h3 h4 h5 h6 => by
    have hj : i ≠ j := fun q => by rw [q, h1] at hk; cases hk
    have hl : i ≠ l := fun q => by rw [q, h2] at hk; cases hk
    rw [List.getElem?_set_ne hj] at h3 h5
    rw [List.getElem?_set_ne hl] at h4 h6
    exact h.sep j l d1 d2 a h1 h2 h3 h4 h5 h6
/-- the slots of a list of places alone differ -/
def Off (is : List Nat) (σ σ' : St) : Prop := σ'.length = σ.length ∧ ∀ i, i ∉ is → σ'[i]? = σ[i]?
theorem Off.refl {is : List Nat} {σ : St} : Off is σ σ := ⟨rfl, fun _ _ => rfl⟩
theorem Off.trans {is : List Nat} {σ σ1 σ2 : St} (a : Off is σ σ1) (b : Off is σ1 σ2) : Off is σ σ2 := ⟨b.1.trans a.1, fun i h => (b.2 i h).trans (a.2 i h)⟩
theorem Off.mono {is js : List Nat} {σ σ' : St} (h : Off is σ σ') (m : ∀ i ∈ is, i ∈ js) : Off js σ σ' := ⟨h.1, fun i hi => h.2 i fun q => hi (m i q)⟩
def gD (K : PySem.W.Frag) (kd : List Bool) (e0 : Hp) (t : T) : TG := fun v σ H Q => ∃ (w : Wd) (ρ : Env) (d : D) (ρ' : Env), w.H = H ∧ Ok K w ∧ EnvOk K kd e0 w σ ρ ∧ Rep K w.Z w.B d v ∧ bindT t d ρ = some ρ' ∧
  ∀ σ', EnvOk K kd e0 w σ' ρ' → Off (slotsT t) σ σ' → Q σ' H
def gDs (K : PySem.W.Frag) (kd : List Bool) (e0 : Hp) (t : T) : TGs := fun vs σ H Q => ∃ (w : Wd) (ρ : Env) (ds : List D) (ρ' : Env), w.H = H ∧ Ok K w ∧ EnvOk K kd e0 w σ ρ ∧ RepL K w.Z w.B ds vs ∧ bindTs t ds ρ = some ρ' ∧
  ∀ σ', EnvOk K kd e0 w σ' ρ' → Off (slotsT t) σ σ' → Q σ' H
theorem _root_.L2.PG.imp {X : Cx} {e : Expr} {t t' : TG} (h : PG X e t) (f : ∀ v σ H Q, t' v σ H Q → t v σ H Q) : PG X e t' := ⟨fun pins s σ H v u Q I r q => h.run pins s σ H v u Q I r (f _ _ _ _ q)⟩
theorem _root_.L2.PGs.imp {X : Cx} {es : List Expr} {t t' : TGs} (h : PGs X es t) (f : ∀ v σ H Q, t' v σ H Q → t v σ H Q) : PGs X es t' := ⟨fun pins s σ H v u Q I r q => h.run pins s σ H v u Q I r (f _ _ _ _ q)⟩
end
theorem ckTs_len {Γ : Gam} {raw : Scope} : ∀ (ts : T) (es : List Expr) (ds : List D) (ρ ρ' : Env), ckTs Γ raw ts es = true → bindTs ts ds ρ = some ρ' → ds.length = es.length
  | .nil, es, ds, ρ, ρ', h, e => by cases es <;> cases ds <;> simp [ckTs, bindTs] at h e ⊢
  | .cons t ts, es, ds, ρ, ρ', h, e => by
    cases es with
    | nil => simp [ckTs] at h
    | cons x es =>
      cases ds with
      | nil => simp [bindTs] at e
      | cons d ds =>
        simp only [ckTs, Bool.and_eq_true] at h
        simp only [bindTs] at e
        split at e
        · cases e
        · rw [List.length_cons, List.length_cons, ckTs_len ts _ _ _ _ h.2 e]
  | .nam i, es, ds, ρ, ρ', h, e => by cases es <;> cases ds <;> simp [ckTs, bindTs] at h e ⊢
  | .tup t, es, ds, ρ, ρ', h, e => by cases es <;> cases ds <;> simp [ckTs, bindTs] at h e ⊢
theorem sndT {Γ : Gam} {F : Nat → List D → Bx → Option (D × Bx)} {k : Nat} {raw sc : Scope} {X : Cx} {e0 : Hp} (C : Cond Γ F k raw sc X) : ∀ t : T, (∀ e, ckT Γ raw t e = true → PG X e (gD X.K Γ.kd e0 t)) ∧ (∀ es, ckTs Γ raw t es = true → PGs X es (gDs X.K Γ.kd e0 t)) := by
  intro t
  induction t with
  | nam i =>
    refine ⟨fun e h => ?_, fun es h => by cases es <;> simp [ckTs] at h⟩
    cases e <;> simp only [ckT] at h <;> try cases h
    rename_i x p
    simp only [Bool.and_eq_true, nameAt, decide_eq_true_eq] at h
    obtain ⟨⟨h1, h2⟩, h3⟩ := h
    obtain ⟨l1, l2⟩ := C.asn x (locB_ok h2)
    refine PG.imp (pg_name (i := i) (by rw [C.N]; exact C.nd) (by rw [C.N]; exact h1) l1 l2) fun v σ H Q q => ?_
    obtain ⟨w, ρ, d, ρ', rfl, k, en, r, e, q⟩ := q
    simp only [bindT] at e
    cases e
    exact q _ (en.put h3 r) ⟨List.length_set, fun j hj => List.getElem?_set_ne fun z => hj (by rw [z]; exact List.mem_singleton.mpr rfl)⟩
  | tup ts ih =>
    refine ⟨fun e h => ?_, fun es h => by cases es <;> simp [ckTs] at h⟩
    cases e <;> simp only [ckT] at h <;> try cases h
    rename_i es n p
    simp only [Bool.and_eq_true] at h
    have P := pg_tup (pos := p) (k := n) (n := es.length) C.calm (ih.2 es h.1) (asg_len h.2) (asg_star h.2)
    refine PG.imp P fun v σ H Q q => ?_
    obtain ⟨w, ρ, d, ρ', rfl, k, en, r, e, q⟩ := q
    cases d <;> simp only [bindT] at e <;> try cases e
    rename_i ds
    obtain ⟨a, vs, rfl, l1, s1, t1⟩ := r
    refine ⟨a, vs, rfl, SqT.up k.sub s1, ?_, w, ρ, ds, ρ', rfl, k, en, t1, e, q⟩
    rw [← t1.length]
    exact ckTs_len ts es ds ρ ρ' h.1 e
  | nil =>
    refine ⟨fun e h => by cases e <;> simp [ckT] at h, fun es h => ?_⟩
    cases es <;> simp only [ckTs] at h <;> try cases h
    refine PGs.imp pgs_nil fun vs σ H Q q => ?_
    obtain ⟨w, ρ, ds, ρ', rfl, k, en, r, e, q⟩ := q
    cases ds <;> simp only [bindTs] at e <;> cases e
    exact ⟨r, q σ en Off.refl⟩
  | cons t ts iht ihts =>
    refine ⟨fun e h => by cases e <;> simp [ckT] at h, fun es h => ?_⟩
    cases es with
    | nil => simp [ckTs] at h
    | cons e es =>
      simp only [ckTs, Bool.and_eq_true] at h
      have hst : noStar e = true := by
        cases t <;> cases e <;> first | rfl | (simp [ckT] at h)
      refine PGs.imp (pgs_cons (iht.1 e h.1) (ihts.2 es h.2) (by rw [asg_cons hst]; rfl)) fun vs σ H Q q => ?_
      obtain ⟨w, ρ, ds, ρ', rfl, k, en, r, e, q⟩ := q
      cases ds with
      | nil => simp [bindTs] at e
      | cons d ds =>
        simp only [bindTs] at e
        split at e
        · cases e
        · rename_i ρ1 h1
          obtain ⟨v, vr, rfl, r1, r2⟩ := r
          refine ⟨v, vr, rfl, w, ρ, d, ρ1, rfl, k, en, r1, h1, fun σ1 en1 o1 => ?_⟩
          refine ⟨w, ρ1, ds, ρ', rfl, k, en1, r2, e, fun σ2 en2 o2 => q σ2 en2 ?_⟩
          exact (o1.mono fun i hi => List.mem_append_left _ hi).trans (o2.mono fun i hi => List.mem_append_right _ hi)
end Dk

set_option autoImplicit false
set_option linter.all false
set_option Elab.async false
set_option maxRecDepth 100000
set_option maxHeartbeats 2000000
/-! DkComp: a comprehension's turns. Own work. -/
namespace Dk
open PySem PySem.Spec PyProof.Rows L2

section
variable {K : PySem.W.Frag} {w w0 w1 : Wd}
/-- an object that came behind w1 is changed -/
theorem poke (l : Le w1 w) (k : Ok K w) {a : Addr} {o : HO} (h1 : w1.H a = none) (hz : w.Z a = none) (hb : a ∉ w.B) : Le w1 ⟨w.Z, upd w.H a o, w.B, w.bx⟩ ∧ Ok K ⟨w.Z, upd w.H a o, w.B, w.bx⟩ := by
  refine ⟨⟨l.z, l.b, fun c u e hc => (upd_ne (ne_of_none e h1)).trans (l.h c u e hc), l.n, fun c hc => ?_⟩, ⟨fun c u e => ?_, k.len, k.nd, fun n d c e1 e2 => ?_⟩⟩
  · show upd w.H a o c ≠ none
    by_cases q : c = a
    · subst q
      rw [upd_same]
      exact fun z => nomatch z
    · rw [upd_ne q]
      exact l.hb c hc
  · exact (upd_ne (ne_of_none e hz)).trans (k.sub _ _ e)
  · obtain ⟨z, u, hu, cu⟩ := k.box n d c e1 e2
    have q : c ≠ a := fun q => hb (q ▸ List.mem_of_getElem? e2)
    exact ⟨z, u, (upd_ne q).trans hu, cu⟩
end

theorem wipe_get {σ : St} : ∀ {vs : List Nat} {i : Nat}, i ∉ vs → (wipe σ vs)[i]? = σ[i]?
  | [], _, _ => rfl
  | v :: vs, i, h => by
    unfold wipe
    rw [List.getElem?_set_ne fun q => h (by rw [q]; exact List.mem_cons_self)]
    exact wipe_get fun q => h (List.mem_cons_of_mem _ q)
theorem wipe_in {σ : St} : ∀ {vs : List Nat} {i : Nat}, i ∈ vs → i < σ.length → (wipe σ vs)[i]? = some none
  | v :: vs, i, h, hl => by
    unfold wipe
    by_cases q : v = i
    · subst q
      exact List.getElem?_set_self (by rw [wipe_length]; exact hl)
    · rw [List.getElem?_set_ne q]
      rcases List.mem_cons.mp h with h | h
      · exact absurd h.symm q
      · exact wipe_in h hl
theorem wipeE_length {ρ : Env} : ∀ {vs : List Nat}, (wipeE ρ vs).length = ρ.length
  | [] => rfl
  | v :: vs => by unfold wipeE; rw [List.length_set, wipeE_length]
theorem wipeE_some {ρ : Env} : ∀ {vs : List Nat} {i : Nat} {d : D}, (wipeE ρ vs)[i]? = some (some d) → i ∉ vs ∧ ρ[i]? = some (some d)
  | [], _, _, h => ⟨by simp, h⟩
  | v :: vs, i, d, h => by
    unfold wipeE at h
    by_cases q : v = i
    · subst q
      by_cases hl : v < (wipeE ρ vs).length
      · rw [List.getElem?_set_self hl] at h; cases h
      · rw [List.getElem?_eq_none (by rw [List.length_set]; omega)] at h; cases h
    · rw [List.getElem?_set_ne q] at h
      obtain ⟨a, b⟩ := wipeE_some h
      exact ⟨by simp only [List.mem_cons, not_or]; exact ⟨fun z => q z.symm, a⟩, b⟩
theorem EnvOk.wipe {K : PySem.W.Frag} {kd : List Bool} {e0 : Hp} {w : Wd} {σ : St} {ρ : Env} (vs : List Nat) (h : EnvOk K kd e0 w σ ρ) : EnvOk K kd e0 w (L2.wipe σ vs) (wipeE ρ vs) where
  ls := by rw [wipe_length]; exact h.ls
  lr := by rw [wipeE_length]; exact h.lr
  dat := fun i d h1 h2 => by
    obtain ⟨a, b⟩ := wipeE_some h2
    rw [wipe_get a]
    exact h.dat i d h1 b
  own := fun i d h1 h2 => by
    obtain ⟨a, b⟩ := wipeE_some h2
    rw [wipe_get a]
    exact h.own i d h1 b
  sep := fun i j d d' a h1 h2 h3 h4 h5 h6 => by
    obtain ⟨a1, b1⟩ := wipeE_some h3
    obtain ⟨a2, b2⟩ := wipeE_some h4
    rw [wipe_get a1] at h5
    rw [wipe_get a2] at h6
    exact h.sep i j d d' a h1 h2 b1 b2 h5 h6
theorem wipe_off {σ σ2 : St} {vs : List Nat} (o : Off vs (wipe σ vs) σ2) : wipe σ2 vs = wipe σ vs := by
  apply List.ext_getElem?
  intro i
  by_cases h : i ∈ vs
  · by_cases hl : i < σ.length
    · rw [wipe_in h (by rw [o.1, wipe_length]; exact hl), wipe_in h hl]
    · rw [List.getElem?_eq_none (by rw [wipe_length, o.1, wipe_length]; omega), List.getElem?_eq_none (by rw [wipe_length]; omega)]
  · rw [wipe_get h, o.2 i h]

/-- one clause: what is walked, the target, the tests, the element -/
theorem lc_D {K : PySem.W.Frag} {kd : List Bool} {e0 : Hp} {fi : Env → Bx → Option (List D × Bx)} {t : T} {ft : Env → Bx → Option (Bool × Bx)} {fe : Env → Bx → Option (D × Bx)} {own : List Nat}
    (hs : ∀ i ∈ slotsT t, i ∈ own) {σ : St} {H : Hp} {Q : VK}
    (h : tE K kd e0 .frs (fun ρ bx => match fi ρ bx with
      | none => none
      | some (ds, bx1) => match compL (fun d bx => match bindT t d (wipeE ρ own) with
          | none => none
          | some ρ1 => match ft ρ1 bx with
            | none => none
            | some (false, bx2) => some (none, bx2)
            | some (true, bx2) => match fe ρ1 bx2 with
              | none => none
              | some (y, bx3) => some (some y, bx3)) ds bx1 with
        | none => none
        | some (r, bx2) => some (.lst r, bx2)) σ H Q) :
    tLc (tI K kd e0 fi) (gD K kd e0 t) (tT K kd e0 ft) (tE K kd e0 .val fe) own σ H Q := by
  obtain ⟨w, ρ, d, b, rfl, k, en, e, q⟩ := h
  simp only at e
  split at e
  · cases e
  · rename_i ds bx1 e1
    split at e
    · cases e
    · rename_i r bx2 e2
      cases e
      refine ⟨w, ρ, ds, bx1, rfl, k, en, e1, fun w1 J l1 k1 b1 j => ?_⟩
      intro L hL
      generalize hstep : (fun d bx => match bindT t d (wipeE ρ own) with
          | none => none
          | some ρ1 => match ft ρ1 bx with
            | none => none
            | some (false, bx2) => some (none, bx2)
            | some (true, bx2) => match fe ρ1 bx2 with
              | none => none
              | some (y, bx3) => some (some y, bx3) : D → Bx → Option (Option D × Bx)) = step at e2
      refine ⟨fun i m H' => m = ds.length - i ∧ i ≤ ds.length ∧ ∃ (w2 : Wd) (acc rest : List D) (vs : List V), w2.H = H' ∧ Le w1 w2 ∧ Ok K w2 ∧ w2.H L = some (.lst vs) ∧ w2.Z L = none ∧ L ∉ w2.B ∧ RepL K w2.Z w2.B acc vs ∧ acc.length ≤ i ∧
        compL step (ds.drop i) w2.bx = some (rest, b) ∧ acc ++ rest = r, ⟨ds.length, ?_⟩, ?_⟩
      · obtain ⟨l2, k2, f2⟩ := newCell (d := .lst []) k1 hL (o := .lst []) ⟨[], rfl, Nat.zero_le _, rfl⟩
        refine ⟨rfl, Nat.zero_le _, _, [], r, [], rfl, l2, k2, upd_same, ?_, fun z => k1.hb L z hL, rfl, Nat.zero_le _, ?_, rfl⟩
        · cases z : w1.Z L with
          | none => rfl
          | some u => rw [k1.sub _ _ z] at hL; cases hL
        · show compL step (ds.drop 0) w1.bx = _
          rw [List.drop_zero, b1]
          exact e2
      · rintro i m H' ⟨rfl, hi, w2, acc, rest, vs, rfl, l2, k2, hLv, hLz, hLb, ra, hacc, ec, er⟩
        by_cases hlt : i < ds.length
        · refine .inr ⟨j.go w2 i l2.lz k2 hlt, fun H' => ∃ (w3 : Wd) (acc rest : List D) (vs : List V), w3.H = H' ∧ Le w1 w3 ∧ Ok K w3 ∧ w3.H L = some (.lst vs) ∧ w3.Z L = none ∧ L ∉ w3.B ∧ RepL K w3.Z w3.B acc vs ∧ acc.length ≤ i + 1 ∧
            compL step (ds.drop (i + 1)) w3.bx = some (rest, b) ∧ acc ++ rest = r, fun H' h => ⟨ds.length - (i + 1), by omega, rfl, hlt, h⟩, fun x H' hy => ?_⟩
          obtain ⟨w3, l3, k3, b3, rfl, rx⟩ := j.yld w2 i x H' ds[i] l2.lz k2 hy (List.getElem?_eq_getElem hlt)
          rw [List.drop_eq_getElem_cons hlt] at ec
          simp only [compL] at ec
          rw [← hstep] at ec
          simp only at ec
          split at ec
          · cases ec
          · rename_i o bx3 hst
            split at hst
            · cases hst
            · rename_i ρ1 hb
              have en3 : EnvOk K kd e0 w3 (wipe σ own) (wipeE ρ own) := ((en.le l1).le (l2.trans l3)).wipe own
              have ne2 : w2.H L ≠ none := by rw [hLv]; exact fun z => nomatch z
              refine ⟨w3, wipeE ρ own, ds[i], ρ1, rfl, k3, en3, rx, hb, fun σ2 en2 off => ⟨wipe_off (off.mono hs), ?_⟩⟩
              rw [← b3] at hst
              split at hst
              · cases hst
              · rename_i bx4 ht
                cases hst
                refine ⟨w3, ρ1, false, _, rfl, k3, en2, ht, fun w4 l4 k4 b4 => ?_⟩
                refine iteF ?_
                rw [hstep] at ec
                split at ec
                · cases ec
                · rename_i r' bx5 ec'
                  cases ec
                  have l24 := l3.trans l4
                  exact ⟨w4, acc, _, vs, rfl, l2.trans l24, k4, l24.h _ _ hLv hLb, l24.n _ ne2 hLz, l24.notB ne2 hLb, ra.le l24, by omega, by rw [b4]; exact ec', er⟩
              · rename_i bx4 ht
                refine ⟨w3, ρ1, true, _, rfl, k3, en2, ht, fun w4 l4 k4 b4 => ?_⟩
                refine iteT ?_
                split at hst
                · cases hst
                · rename_i y bx5 he
                  cases hst
                  refine ⟨w4, ρ1, y, _, rfl, k4, en2.le l4, by rw [b4]; exact he, fun w5 v l5 k5 b5 r5 => ?_⟩
                  have l25 := (l3.trans l4).trans l5
                  have hL5 := l25.h _ _ hLv hLb
                  have hZ5 := l25.n _ ne2 hLz
                  have hB5 := l25.notB ne2 hLb
                  rw [hstep] at ec
                  split at ec
                  · cases ec
                  · rename_i r' bx6 ec'
                    cases ec
                    obtain ⟨l6, k6⟩ := poke (o := .lst (vs ++ [v])) (l2.trans l25) k5 hL hZ5 hB5
                    have hvl : vs.length = acc.length := ra.length.symm
                    refine ⟨vs, hL5, ?_, _, acc ++ [y], r', vs ++ [v], rfl, l6, k6, upd_same, hZ5, hB5, (ra.le l25).append (RepL.one r5), ?_, by show compL _ _ w5.bx = _; rw [b5]; exact ec', ?_⟩
                    · have := j.len
                      rw [SZ_eq] at this
                      omega
                    · rw [List.length_append, List.length_singleton]
                      omega
                    · rw [← er, List.append_assoc]
                      rfl
        · have hie : i = ds.length := by omega
          subst hie
          rw [List.drop_length] at ec
          simp only [compL] at ec
          cases ec
          rw [List.append_nil] at er
          subst er
          have hw : w.H L = none := l1.free hL
          refine .inl ⟨j.stop w2 _ l2.lz k2 (Nat.le_refl _), q w2 _ (l1.trans l2) k2 rfl (.inr ⟨L, _, rfl, hw, hLz, hLb, hLv, vs, rfl, Nat.le_trans hacc j.len, ra⟩)⟩
end Dk

set_option autoImplicit false
set_option linter.all false
set_option Elab.async false
set_option maxRecDepth 100000
set_option maxHeartbeats 4000000
/-! DkSnd: every expression that is held against a term does what the term's evaluation says. Own work. -/
namespace Dk
open PySem PySem.Spec PyProof.Rows L2

def isBrw : Md → Bool
  | .brw => true
  | _ => false
def isFrs : Md → Bool
  | .frs => true
  | _ => false
def ownL (Γ : Gam) (own : List Nat) : List (Str × Nat) := own.map fun i => (Γ.N.getD i "", i)
def opB (a b : Operator) : Bool := decide (a = b)
def ckN (a : Str) (sc : Scope) (x : Str) : Bool := decide (x = a) && glB sc x

mutual
def ck (Γ : Gam) : E → Scope → Md → Expr → Bool
  | .var i, sc, m, .Name x _ => nameAt Γ i x && visB sc x && dbgB x && !isFrs m && (isBrw m || decide (Γ.kd[i]? = some false))
  | .con c, _, _, .Constant k _ _ => conB c k
  | .glo g, sc, _, .Name x _ => decide (Γ.gls[g]? = some x) && glB sc x
  | .tup es, sc, _, .Tuple xs _ _ => ckA Γ es sc .val xs
  | .lst es, sc, _, .List xs _ => ckA Γ es sc .val xs
  | .bin op a b, sc, _, .BinOp x o y _ => decide (o = bopA op) && ck Γ a sc .brw x && ck Γ b sc .brw y
  | .neg a, sc, _, .UnaryOp o x _ => decide (o = .USub) && ck Γ a sc .brw x
  | .cmp op a b, sc, _, .Compare x [o] [y] _ => decide (o = copA op) && ck Γ a sc .brw x && ck Γ b sc .brw y
  | .chain op op' a b c, sc, _, .Compare x [o, o'] [y, z] _ => decide (o = copA op) && decide (o' = copA op') && ck Γ a sc .brw x && ck Γ b sc .brw y && ck Γ c sc .brw z
  | .and a b, sc, _, .BoolOp o (x :: y :: r) p => decide (o = .And) && ck Γ a sc .brw x && (match r with
    | [] => ck Γ b sc .brw y
    | z :: r => ck Γ b sc .brw (.BoolOp .And (y :: z :: r) p))
  | .or a b, sc, _, .BoolOp o (x :: y :: r) p => decide (o = .Or) && ck Γ a sc .brw x && (match r with
    | [] => ck Γ b sc .brw y
    | z :: r => ck Γ b sc .brw (.BoolOp .Or (y :: z :: r) p))
  | .not a, sc, _, .UnaryOp o x _ => decide (o = .Not) && ck Γ a sc .brw x
  | .ite c a b, sc, m, .IfExp x y z _ => ck Γ c sc .brw x && ck Γ a sc m y && ck Γ b sc m z
  | .idx a i, sc, m, .Subscript x y _ => !isFrs m && ck Γ a sc .brw x && ck Γ i sc .brw y && noSlice y
  | .slc a l h, sc, _, .Subscript x (.Slice l' h' none _) _ => ck Γ a sc .brw x && ckO Γ l sc l' && ckO Γ h sc h'
  | .isi a t, sc, _, .Call (.Name f _) [x, .Name ty _] [] _ => ckN "isinstance" sc f && ck Γ a sc .brw x && ckN (Str.ofString (tyN t)) sc ty && noStar x
  | .call f es, sc, m, .Call (.Name x _) xs [] _ => decide (Γ.fns[f]? = some (x, xs.length)) && glB sc x && ckA Γ es sc .val xs && (!isFrs m || Γ.fr f)
  | .blt f es, sc, _, .Call (.Name x _) (y :: ys) [] _ => ckN (bltX f) sc x && ckA Γ es sc .brw (y :: ys)
  | .comp t it c e own, sc, _, .ListComp elt [⟨tg, iter, ifs, a⟩] scope _ => decide (a = 0) && blkC Γ.N sc scope (ownL Γ own) && ckI Γ it sc tg iter && noSet iter && ckT Γ scope t tg && (slotsT t).all (fun i => own.contains i) &&
      ckC Γ c (relS scope sc) ifs && ck Γ e (relS scope sc) .val elt
  | _, _, _, _ => false
def ckA (Γ : Gam) : E → Scope → Md → List Expr → Bool
  | .nil, _, _, [] => true
  | .cons e es, sc, m, x :: xs => ck Γ e sc m x && noStar x && ckA Γ es sc m xs
  | _, _, _, _ => false
def ckI (Γ : Gam) : E → Scope → Expr → Expr → Bool
  | .ival a, sc, _, x => ck Γ a sc .val x
  | .irng a, sc, _, .Call (.Name f _) [x] [] _ => ckN "range" sc f && ck Γ a sc .brw x && noStar x
  | .irng2 a b, sc, _, .Call (.Name f _) [x, y] [] _ => ckN "range" sc f && ck Γ a sc .brw x && noStar x && ck Γ b sc .brw y && noStar y
  | .ienum a, sc, .Tuple _ _ _, .Call (.Name f _) [x] [] _ => ckN "enumerate" sc f && ck Γ a sc .val x && noStar x
  | _, _, _, _ => false
def ckO (Γ : Gam) : E → Scope → Option Expr → Bool
  | .nil, _, none => true
  | .cons a .nil, sc, some x => ck Γ a sc .brw x
  | _, _, _ => false
def ckC (Γ : Gam) : E → Scope → List Expr → Bool
  | .nil, _, [] => true
  | .cons c .nil, sc, [x] => ck Γ c sc .brw x
  | _, _, _ => false
end

section
variable {Γ : Gam} {F : Nat → List D → Bx → Option (D × Bx)} {e0 : Hp}
/-- several values, read at once -/
def tAB (K : PySem.W.Frag) (kd : List Bool) (e0 : Hp) (f : Env → Bx → Option (List D × Bx)) : TA := fun σ H Q => ∃ (w : Wd) (ρ : Env) (ds : List D) (b : Bx), w.H = H ∧ Ok K w ∧ EnvOk K kd e0 w σ ρ ∧ f ρ w.bx = some (ds, b) ∧
  ∀ (w' : Wd) (vs : List V), Le w w' → Ok K w' → w'.bx = b → RepBL K w' ds vs → Q vs w'.H
/-- a slice's part -/
def tO (K : PySem.W.Frag) (kd : List Bool) (e0 : Hp) (f : Env → Bx → Option (Option Int × Bx)) : TO := fun σ H Q => ∃ (w : Wd) (ρ : Env) (o : Option Int) (b : Bx), w.H = H ∧ Ok K w ∧ EnvOk K kd e0 w σ ρ ∧ f ρ w.bx = some (o, b) ∧
  ∀ (w' : Wd), Le w w' → Ok K w' → w'.bx = b → Q o w'.H
theorem _root_.L2.PW.imp {X : Cx} {e : Expr} {t t' : TT} (h : PW X e t) (f : ∀ σ H Q, t' σ H Q → t σ H Q) : PW X e t' := ⟨fun wh pins s σ H Q I q => h.run wh pins s σ H Q I (f _ _ _ q)⟩
theorem _root_.L2.PO.imp {X : Cx} {e : Option Expr} {t t' : TO} (h : PO X e t) (f : ∀ σ H Q, t' σ H Q → t σ H Q) : PO X e t' := ⟨fun pins s σ H Q I q => h.run pins s σ H Q I (f _ _ _ q)⟩
theorem _root_.L2.PTs.imp {X : Cx} {e : List Expr} {t t' : TT} (h : PTs X e t) (f : ∀ σ H Q, t' σ H Q → t σ H Q) : PTs X e t' := ⟨fun pins s σ H Q I q => h.run pins s σ H Q I (f _ _ _ q)⟩
theorem RepM.pre {K : PySem.W.Frag} {m : Md} {w0 w1 w : Wd} {d : D} {v : V} (l : Le w0 w1) (h : RepM K m w1 w d v) : RepM K m w0 w d v := by
  cases m with
  | val => exact h
  | brw => exact h
  | frs => exact RepF.pre l h
abbrev tEM (Γ : Gam) (F : Nat → List D → Bx → Option (D × Bx)) (e0 : Hp) (X : Cx) (m : Md) (ir : E) : TE := tE X.K Γ.kd e0 m (evE F Γ.G ir)
abbrev tTM (Γ : Gam) (F : Nat → List D → Bx → Option (D × Bx)) (e0 : Hp) (X : Cx) (ir : E) : TT := tT X.K Γ.kd e0 (tstE F Γ.G ir)
theorem tst_eq {G : Nat → Option D} {c : E} {ρ : Env} {bx b : Bx} {r : Bool} (h : tstE F G c ρ bx = some (r, b)) : evE F G c ρ bx = some (.bl r, b) := by
  unfold tstE at h
  split at h
  · cases h; assumption
  · cases h
/-- a test by its value -/
theorem pt_plain {X : Cx} {ir : E} {x : Expr} (h : PE X x (tEM Γ F e0 X .brw ir)) (hp : isPlain x = true) : PT X x (tTM Γ F e0 X ir) := by
  refine PT.imp (pt_val h fun wh => plain_true hp wh) fun σ H Q q => ?_
  obtain ⟨w, ρ, r, b, h1, h2, h3, h4, q⟩ := q
  exact ⟨w, ρ, .bl r, b, h1, h2, h3, tst_eq h4, fun w' v l k e rp => ⟨r, RepB.bl rp, q w' l k e⟩⟩

structure Snd1 (Γ : Gam) (F : Nat → List D → Bx → Option (D × Bx)) (e0 : Hp) (ir : E) : Prop where
  e : ∀ (k : Nat) (raw sc : Scope) (X : Cx) (m : Md) (x : Expr), Cond Γ F k raw sc X → ck Γ ir sc m x = true → PE X x (tEM Γ F e0 X m ir)
  t : ∀ (k : Nat) (raw sc : Scope) (X : Cx) (m : Md) (x : Expr), Cond Γ F k raw sc X → ck Γ ir sc m x = true → PT X x (tTM Γ F e0 X ir) ∧ (∀ o a b r p, x = .BoolOp o (a :: b :: r) p → PW X x (tTM Γ F e0 X ir))
  av : ∀ (k : Nat) (raw sc : Scope) (X : Cx) (xs : List Expr), Cond Γ F k raw sc X → ckA Γ ir sc .val xs = true → PA X xs (tA X.K Γ.kd e0 (evA F Γ.G ir))
  ab : ∀ (k : Nat) (raw sc : Scope) (X : Cx) (xs : List Expr), Cond Γ F k raw sc X → ckA Γ ir sc .brw xs = true → PA X xs (tAB X.K Γ.kd e0 (evA F Γ.G ir))
  i : ∀ (k : Nat) (raw sc : Scope) (X : Cx) (tg x : Expr), Cond Γ F k raw sc X → ckI Γ ir sc tg x = true → PI X tg x (tI X.K Γ.kd e0 (evI F Γ.G ir))
  o : ∀ (k : Nat) (raw sc : Scope) (X : Cx) (x : Option Expr), Cond Γ F k raw sc X → ckO Γ ir sc x = true → PO X x (tO X.K Γ.kd e0 (evO F Γ.G ir))
  c : ∀ (k : Nat) (raw sc : Scope) (X : Cx) (xs : List Expr), Cond Γ F k raw sc X → ckC Γ ir sc xs = true → PTs X xs (tT X.K Γ.kd e0 (evC F Γ.G ir))

/-- where a term is no argument list, walk, part, test list -/
theorem Snd1.mk' {ir : E} (e : ∀ (k : Nat) (raw sc : Scope) (X : Cx) (m : Md) (x : Expr), Cond Γ F k raw sc X → ck Γ ir sc m x = true → PE X x (tEM Γ F e0 X m ir))
    (t : ∀ (k : Nat) (raw sc : Scope) (X : Cx) (m : Md) (x : Expr), Cond Γ F k raw sc X → ck Γ ir sc m x = true → PT X x (tTM Γ F e0 X ir) ∧ (∀ o a b r p, x = .BoolOp o (a :: b :: r) p → PW X x (tTM Γ F e0 X ir)))
    (ha : ∀ sc m xs, ckA Γ ir sc m xs = false) (hi : ∀ sc tg x, ckI Γ ir sc tg x = false) (ho : ∀ sc x, ckO Γ ir sc x = false) (hc : ∀ sc xs, ckC Γ ir sc xs = false) : Snd1 Γ F e0 ir :=
  ⟨e, t, fun _ _ _ _ _ _ h => (by rw [ha] at h; cases h), fun _ _ _ _ _ _ h => (by rw [ha] at h; cases h), fun _ _ _ _ _ _ _ h => (by rw [hi] at h; cases h), fun _ _ _ _ _ _ h => (by rw [ho] at h; cases h), fun _ _ _ _ _ _ h => (by rw [hc] at h; cases h)⟩
/-- .. and as a test it is plain -/
theorem Snd1.mkP {ir : E} (e : ∀ (k : Nat) (raw sc : Scope) (X : Cx) (m : Md) (x : Expr), Cond Γ F k raw sc X → ck Γ ir sc m x = true → PE X x (tEM Γ F e0 X m ir))
    (hp : ∀ sc m x, ck Γ ir sc m x = true → isPlain x = true ∧ ck Γ ir sc .brw x = true)
    (ha : ∀ sc m xs, ckA Γ ir sc m xs = false) (hi : ∀ sc tg x, ckI Γ ir sc tg x = false) (ho : ∀ sc x, ckO Γ ir sc x = false) (hc : ∀ sc xs, ckC Γ ir sc xs = false) : Snd1 Γ F e0 ir :=
  .mk' e (fun k raw sc X m x C h => ⟨pt_plain (e k raw sc X .brw x C (hp sc m x h).2) (hp sc m x h).1, fun o a b r p hx => by
    have := (hp sc m x h).1
    rw [hx] at this
    cases this⟩) ha hi ho hc
theorem snd_var (i : Nat) : Snd1 Γ F e0 (.var i) := by
  refine .mkP (fun k raw sc X m x C h => ?_) (fun sc m x h => ?_) ?_ ?_ ?_ ?_
  · cases x <;> simp only [ck] at h <;> try (cases h; done)
    rename_i x p
    simp only [Bool.and_eq_true, nameAt, decide_eq_true_eq, dbgB, Bool.not_eq_true', Bool.or_eq_true] at h
    obtain ⟨⟨⟨⟨h1, h2⟩, h3, h4⟩, h5⟩, h6⟩ := h
    have hv : Vis X.env.scope x := by rw [C.sc]; exact visB_ok h2
    refine PE.imp (pe_var (i := i) (by rw [C.N]; exact h1) hv h3 h4) fun σ H Q q => ?_
    obtain ⟨w, ρ, d, b, rfl, k, en, e, q⟩ := q
    simp only [evE] at e
    split at e <;> cases e
    rename_i hd
    have hi : i < Γ.kd.length := by
      rw [← en.lr]
      exact (List.getElem?_eq_some_iff.mp hd).1
    cases hk : Γ.kd[i]? with
    | none => rw [List.getElem?_eq_getElem hi] at hk; cases hk
    | some c =>
      cases c with
      | false =>
        obtain ⟨v, e1, r⟩ := en.dat i d hk hd
        refine ⟨v, e1, q w v (Le.refl k) k rfl ?_⟩
        cases m with
        | val => exact r
        | brw => exact .inl r
        | frs => cases h5
      | true =>
        rcases h6 with h6 | h6
        · cases m <;> try cases h6
          obtain ⟨a, o, e1, hz, hb, ho, c, h0⟩ := en.own i d hk hd
          exact ⟨.ref a, e1, q w _ (Le.refl k) k rfl (.inr ⟨a, o, rfl, hb, ho, c⟩)⟩
        · rw [hk] at h6; cases h6
  · cases x <;> simp only [ck] at h <;> try (cases h; done)
    refine ⟨rfl, ?_⟩
    simp only [ck, Bool.and_eq_true, Bool.or_eq_true] at h ⊢
    exact ⟨⟨h.1.1, rfl⟩, .inl rfl⟩
  all_goals (intros; rfl)

theorem val_any {K : PySem.W.Frag} {m : Md} {w : Wd} {d : D} {v : V} (i : isImm d = true) (r : Rep K w.Z w.B d v) : RepM K m w w d v := by
  cases m with
  | val => exact r
  | brw => exact .inl r
  | frs => exact .inl ⟨i, r⟩
theorem snd_con (c : D) : Snd1 Γ F e0 (.con c) := by
  refine .mkP (fun k raw sc X m x C h => ?_) (fun sc m x h => ?_) ?_ ?_ ?_ ?_
  · cases x <;> simp only [ck] at h <;> try (cases h; done)
    rename_i cc j p
    cases c <;> cases cc <;> simp only [conB] at h <;> try (cases h; done)
    · refine PE.imp pe_non fun σ H Q q => ?_
      obtain ⟨w, ρ, d, b, rfl, k, en, e, q⟩ := q
      simp only [evE] at e
      cases e
      exact q w .non (Le.refl k) k rfl (val_any rfl rfl)
    · cases (eq_of_beq h)
      refine PE.imp pe_bl fun σ H Q q => ?_
      obtain ⟨w, ρ, d, b, rfl, k, en, e, q⟩ := q
      simp only [evE] at e
      cases e
      exact q w (.bl _) (Le.refl k) k rfl (val_any rfl rfl)
    · cases (of_decide_eq_true h)
      refine PE.imp pe_int fun σ H Q q => ?_
      obtain ⟨w, ρ, d, b, rfl, k, en, e, q⟩ := q
      simp only [evE] at e
      cases e
      exact q w (.int _) (Le.refl k) k rfl (val_any rfl rfl)
    · cases (of_decide_eq_true h)
      refine PE.imp pe_str fun σ H Q q => ?_
      obtain ⟨w, ρ, d, b, rfl, k, en, e, q⟩ := q
      simp only [evE] at e
      cases e
      exact q w (.str _) (Le.refl k) k rfl (val_any rfl rfl)
  · cases x <;> simp only [ck] at h <;> try (cases h; done)
    exact ⟨rfl, by simp only [ck]; exact h⟩
  all_goals (intros; rfl)
theorem snd_glo (g : Nat) : Snd1 Γ F e0 (.glo g) := by
  refine .mkP (fun k raw sc X m x C h => ?_) (fun sc m x h => ?_) ?_ ?_ ?_ ?_
  · cases x <;> simp only [ck] at h <;> try (cases h; done)
    rename_i x p
    simp only [Bool.and_eq_true, decide_eq_true_eq] at h
    obtain ⟨h1, h2⟩ := h
    obtain ⟨g1, g2, g3⟩ := glB_ok C.sc h2
    cases hd : Γ.G g with
    | none =>
      refine ⟨fun pins s σ H Q I q => ?_⟩
      obtain ⟨w, ρ, d, b, rfl, k, en, e, q⟩ := q
      simp only [evE, hd] at e
      cases e
    | some d0 =>
      obtain ⟨hs, u, v, hm, rv, rp⟩ := C.glo g x d0 h1 hd
      refine PE.imp (pe_glob g1 hm rv g2) fun σ H Q q => ?_
      obtain ⟨w, ρ, d, b, rfl, k, en, e, q⟩ := q
      simp only [evE, hd] at e
      cases e
      exact q w v (Le.refl k) k rfl (val_any (isScal_imm hs) (rp _ _))
  · cases x <;> simp only [ck] at h <;> try (cases h; done)
    exact ⟨rfl, by simp only [ck]; exact h⟩
  all_goals (intros; rfl)
theorem snd_tup (es : E) (ih : Snd1 Γ F e0 es) : Snd1 Γ F e0 (.tup es) := by
  refine .mkP (fun k raw sc X m x C h => ?_) (fun sc m x h => ?_) ?_ ?_ ?_ ?_
  · cases x <;> simp only [ck] at h <;> try (cases h; done)
    refine PE.of_frs (PE.imp (pe_tup (ih.av k raw sc X _ C h)) fun σ H Q q => ?_) m
    obtain ⟨w, ρ, d, b, rfl, k, en, e, q⟩ := q
    simp only [evE] at e
    split at e
    · rename_i ds bx1 e1
      split at e <;> cases e
      rename_i hl
      refine ⟨w, ρ, ds, _, rfl, k, en, e1, fun w1 vs l1 k1 b1 r1 => ⟨by rw [← r1.length, ← SZ_eq]; exact hl, fun p hp => ?_⟩⟩
      obtain ⟨w2, l2, k2, b2, h2, r2⟩ := newTup k1 hp hl r1
      rw [← h2]
      exact q w2 _ (l1.trans l2) k2 (b2.trans b1) (.inl ⟨rfl, r2⟩)
    · cases e
  · cases x <;> simp only [ck] at h <;> try (cases h; done)
    exact ⟨rfl, by simp only [ck]; exact h⟩
  all_goals (intros; rfl)
theorem snd_lst (es : E) (ih : Snd1 Γ F e0 es) : Snd1 Γ F e0 (.lst es) := by
  refine .mkP (fun k raw sc X m x C h => ?_) (fun sc m x h => ?_) ?_ ?_ ?_ ?_
  · cases x <;> simp only [ck] at h <;> try (cases h; done)
    refine PE.of_frs (PE.imp (pe_lst (ih.av k raw sc X _ C h)) fun σ H Q q => ?_) m
    obtain ⟨w, ρ, d, b, rfl, k, en, e, q⟩ := q
    simp only [evE] at e
    split at e
    · rename_i ds bx1 e1
      split at e <;> cases e
      rename_i hl
      refine ⟨w, ρ, ds, _, rfl, k, en, e1, fun w1 vs l1 k1 b1 r1 => ⟨by rw [← r1.length, ← SZ_eq]; exact hl, fun p hp => ?_⟩⟩
      obtain ⟨w2, l2, k2, b2, h2, r2⟩ := newLst k1 hp hl r1
      rw [← h2]
      exact q w2 _ (l1.trans l2) k2 (b2.trans b1) (RepF.pre l1 r2)
    · cases e
  · cases x <;> simp only [ck] at h <;> try (cases h; done)
    exact ⟨rfl, by simp only [ck]; exact h⟩
  all_goals (intros; rfl)
theorem snd_bin (op : Bop) (a b : E) (iha : Snd1 Γ F e0 a) (ihb : Snd1 Γ F e0 b) : Snd1 Γ F e0 (.bin op a b) := by
  refine .mkP (fun k raw sc X m x C h => ?_) (fun sc m x h => ?_) ?_ ?_ ?_ ?_
  · cases x <;> simp only [ck] at h <;> try (cases h; done)
    simp only [Bool.and_eq_true, decide_eq_true_eq] at h
    obtain ⟨⟨rfl, h1⟩, h2⟩ := h
    refine PE.of_frs (PE.imp (pe_op (op_binD op) (iha.e k raw sc X .brw _ C h1) (ihb.e k raw sc X .brw _ C h2)) fun σ H Q q => ?_) m
    obtain ⟨w, ρ, d, b, rfl, k, en, e, q⟩ := q
    simp only [evE] at e
    split at e
    · cases e
    · rename_i d1 bx1 e1
      split at e
      · cases e
      · rename_i d2 bx2 e2
        split at e <;> cases e
        rename_i e3
        refine ⟨w, ρ, d1, bx1, rfl, k, en, e1, fun w1 v1 l1 k1 b1 r1 => ⟨w1, ρ, d2, _, rfl, k1, en.le l1, by rw [b1]; exact e2, fun w2 v2 l2 k2 b2 r2 => ?_⟩⟩
        exact ⟨w2, d1, d2, d, rfl, k2, RepB.le l2 r1, r2, e3, fun w3 v3 l3 k3 b3 r3 => q w3 v3 ((l1.trans l2).trans l3) k3 (b3.trans b2) (RepF.pre (l1.trans l2) r3)⟩
  · cases x <;> simp only [ck] at h <;> try (cases h; done)
    exact ⟨rfl, by simp only [ck]; exact h⟩
  all_goals (intros; rfl)
theorem snd_neg (a : E) (iha : Snd1 Γ F e0 a) : Snd1 Γ F e0 (.neg a) := by
  refine .mkP (fun k raw sc X m x C h => ?_) (fun sc m x h => ?_) ?_ ?_ ?_ ?_
  · cases x <;> simp only [ck] at h <;> try (cases h; done)
    simp only [Bool.and_eq_true, decide_eq_true_eq] at h
    obtain ⟨rfl, h1⟩ := h
    refine PE.of_frs (PE.imp (pe_un un_neg (iha.e k raw sc X .brw _ C h1)) fun σ H Q q => ?_) m
    obtain ⟨w, ρ, d, b, rfl, k, en, e, q⟩ := q
    simp only [evE] at e
    split at e <;> cases e
    rename_i e1
    exact ⟨w, ρ, _, _, rfl, k, en, e1, fun w1 v1 l1 k1 b1 r1 => ⟨_, RepB.int r1, q w1 _ l1 k1 b1 (.inl ⟨rfl, rfl⟩)⟩⟩
  · cases x <;> simp only [ck] at h <;> try (cases h; done)
    simp only [Bool.and_eq_true, decide_eq_true_eq] at h
    obtain ⟨rfl, h1⟩ := h
    exact ⟨rfl, by simp only [ck, h1]; rfl⟩
  all_goals (intros; rfl)

theorem rd_cmp {K : PySem.W.Frag} {σ : St} {op : Cop} {a b : E} {w : Wd} {ρ : Env} {r : Bool} {bx : Bx} {Γ : Gam} {Q : VK} (k : Ok K w) (en : EnvOk K Γ.kd e0 w σ ρ) (e : evE F Γ.G (.cmp op a b) ρ w.bx = some (.bl r, bx))
    (q : ∀ w', Le w w' → Ok K w' → w'.bx = bx → Q (.bl r) w'.H) : tOp (rC2 K (cmpD op)) (tE K Γ.kd e0 .brw (evE F Γ.G a)) (tE K Γ.kd e0 .brw (evE F Γ.G b)) σ w.H Q := by
  simp only [evE] at e
  split at e
  · cases e
  · rename_i d1 bx1 e1
    split at e
    · cases e
    · rename_i d2 bx2 e2
      split at e <;> cases e
      rename_i e3
      refine ⟨w, ρ, d1, bx1, rfl, k, en, e1, fun w1 v1 l1 k1 b1 r1 => ⟨w1, ρ, d2, bx, rfl, k1, en.le l1, by rw [b1]; exact e2, fun w2 v2 l2 k2 b2 r2 => ?_⟩⟩
      exact ⟨w2, d1, d2, r, rfl, k2, RepB.le l2 r1, r2, e3, q w2 (l1.trans l2) k2 b2⟩
theorem cmp_bl {G : Nat → Option D} {op : Cop} {a b : E} {ρ : Env} {bx bx' : Bx} {d : D} (e : evE F G (.cmp op a b) ρ bx = some (d, bx')) : ∃ r, d = .bl r := by
  simp only [evE] at e
  split at e
  · cases e
  · split at e
    · cases e
    · split at e <;> cases e
      exact ⟨_, rfl⟩
theorem snd_cmp (op : Cop) (a b : E) (iha : Snd1 Γ F e0 a) (ihb : Snd1 Γ F e0 b) : Snd1 Γ F e0 (.cmp op a b) := by
  refine .mk' (fun k raw sc X m x C h => ?_) (fun k raw sc X m x C h => ?_) ?_ ?_ ?_ ?_
  · cases x <;> try (simp only [ck] at h; cases h; done)
    rename_i lx ops cs p
    rcases ops with _ | ⟨o, _ | ⟨o2, ops⟩⟩ <;> rcases cs with _ | ⟨y, _ | ⟨y2, cs⟩⟩ <;> try (simp only [ck] at h; cases h; done)
    simp only [ck, Bool.and_eq_true, decide_eq_true_eq] at h
    obtain ⟨⟨rfl, h1⟩, h2⟩ := h
    refine PE.of_frs (PE.imp (pe_cmpR (op_cmpD C.room.units op) (iha.e k raw sc X .brw _ C h1) (ihb.e k raw sc X .brw _ C h2) (cop_mark op _)) fun σ H Q q => ?_) m
    obtain ⟨w, ρ, d, b, rfl, k, en, e, q⟩ := q
    obtain ⟨r, rfl⟩ := cmp_bl e
    exact rd_cmp k en e fun w' l k' b' => q w' _ l k' b' (.inl ⟨rfl, rfl⟩)
  · cases x <;> try (simp only [ck] at h; cases h; done)
    rename_i lx ops cs p
    rcases ops with _ | ⟨o, _ | ⟨o2, ops⟩⟩ <;> rcases cs with _ | ⟨y, _ | ⟨y2, cs⟩⟩ <;> try (simp only [ck] at h; cases h; done)
    simp only [ck, Bool.and_eq_true, decide_eq_true_eq] at h
    obtain ⟨⟨rfl, h1⟩, h2⟩ := h
    refine ⟨PT.imp (pt_cmpR (op_cmpD C.room.units op) (iha.e k raw sc X .brw _ C h1) (ihb.e k raw sc X .brw _ C h2) (cop_mark op _)) fun σ H Q q => ?_, fun o a b r p hx => by cases hx⟩
    obtain ⟨w, ρ, r, b, rfl, k, en, e, q⟩ := q
    exact rd_cmp k en (tst_eq e) fun w' l k' b' => ⟨r, rfl, q w' l k' b'⟩
  all_goals (intros; rfl)
end
end Dk

set_option autoImplicit false
set_option linter.all false
set_option Elab.async false
set_option maxRecDepth 100000
set_option maxHeartbeats 4000000
/-! DkSnd2: the same, further terms. Own work. -/
namespace Dk
open PySem PySem.Spec PyProof.Rows L2
section
variable {Γ : Gam} {F : Nat → List D → Bx → Option (D × Bx)} {e0 : Hp}

theorem rd_chain {K : PySem.W.Frag} {σ : St} {op op' : Cop} {a b c : E} {w : Wd} {ρ : Env} {r : Bool} {bx : Bx} {Γ : Gam} {Q : VK} (k : Ok K w) (en : EnvOk K Γ.kd e0 w σ ρ) (e : evE F Γ.G (.chain op op' a b c) ρ w.bx = some (.bl r, bx))
    (q : ∀ w', Le w w' → Ok K w' → w'.bx = bx → Q (.bl r) w'.H) : tChain (rC2 K (cmpD op)) (rC2 K (cmpD op')) (tE K Γ.kd e0 .brw (evE F Γ.G a)) (tE K Γ.kd e0 .brw (evE F Γ.G b)) (tE K Γ.kd e0 .brw (evE F Γ.G c)) σ w.H Q := by
  simp only [evE] at e
  split at e
  · cases e
  · rename_i d1 bx1 e1
    split at e
    · cases e
    · rename_i d2 bx2 e2
      split at e
      · cases e
      · rename_i e3
        cases e
        refine ⟨w, ρ, d1, bx1, rfl, k, en, e1, fun w1 v1 l1 k1 b1 r1 => ⟨w1, ρ, d2, _, rfl, k1, en.le l1, by rw [b1]; exact e2, fun w2 v2 l2 k2 b2 r2 => ?_⟩⟩
        exact ⟨w2, d1, d2, false, rfl, k2, RepB.le l2 r1, r2, e3, false, rfl, iteF (q w2 (l1.trans l2) k2 b2)⟩
      · rename_i e3
        split at e
        · cases e
        · rename_i d3 bx3 e4
          split at e <;> cases e
          rename_i e5
          refine ⟨w, ρ, d1, bx1, rfl, k, en, e1, fun w1 v1 l1 k1 b1 r1 => ⟨w1, ρ, d2, _, rfl, k1, en.le l1, by rw [b1]; exact e2, fun w2 v2 l2 k2 b2 r2 => ?_⟩⟩
          refine ⟨w2, d1, d2, true, rfl, k2, RepB.le l2 r1, r2, e3, true, rfl, iteT ?_⟩
          refine ⟨w2, ρ, d3, _, rfl, k2, en.le (l1.trans l2), by rw [b2]; exact e4, fun w3 v3 l3 k3 b3 r3 => ?_⟩
          exact ⟨w3, d2, d3, r, rfl, k3, RepB.le l3 r2, r3, e5, q w3 ((l1.trans l2).trans l3) k3 b3⟩
theorem chain_bl {G : Nat → Option D} {op op' : Cop} {a b c : E} {ρ : Env} {bx bx' : Bx} {d : D} (e : evE F G (.chain op op' a b c) ρ bx = some (d, bx')) : ∃ r, d = .bl r := by
  simp only [evE] at e
  split at e
  · cases e
  · split at e
    · cases e
    · split at e
      · cases e
      · cases e
        exact ⟨_, rfl⟩
      · split at e
        · cases e
        · split at e <;> cases e
          exact ⟨_, rfl⟩
theorem snd_chain (op op' : Cop) (a b c : E) (iha : Snd1 Γ F e0 a) (ihb : Snd1 Γ F e0 b) (ihc : Snd1 Γ F e0 c) : Snd1 Γ F e0 (.chain op op' a b c) := by
  refine .mk' (fun k raw sc X m x C h => ?_) (fun k raw sc X m x C h => ?_) ?_ ?_ ?_ ?_
  · cases x <;> try (simp only [ck] at h; cases h; done)
    rename_i lx ops cs p
    rcases ops with _ | ⟨o, _ | ⟨o2, _ | ⟨o3, ops⟩⟩⟩ <;> rcases cs with _ | ⟨y, _ | ⟨y2, _ | ⟨y3, cs⟩⟩⟩ <;> try (simp only [ck] at h; cases h; done)
    simp only [ck, Bool.and_eq_true, decide_eq_true_eq] at h
    obtain ⟨⟨⟨⟨rfl, rfl⟩, h1⟩, h2⟩, h3⟩ := h
    refine PE.of_frs (PE.imp (pe_chain (op_cmpD C.room.units op) (op_cmpD C.room.units op') (iha.e k raw sc X .brw _ C h1) (ihb.e k raw sc X .brw _ C h2) (ihc.e k raw sc X .brw _ C h3) (chain_marks op op' _ _)) fun σ H Q q => ?_) m
    obtain ⟨w, ρ, d, b, rfl, k, en, e, q⟩ := q
    obtain ⟨r, rfl⟩ := chain_bl e
    exact rd_chain k en e fun w' l k' b' => q w' _ l k' b' (.inl ⟨rfl, rfl⟩)
  · cases x <;> try (simp only [ck] at h; cases h; done)
    rename_i lx ops cs p
    rcases ops with _ | ⟨o, _ | ⟨o2, _ | ⟨o3, ops⟩⟩⟩ <;> rcases cs with _ | ⟨y, _ | ⟨y2, _ | ⟨y3, cs⟩⟩⟩ <;> try (simp only [ck] at h; cases h; done)
    simp only [ck, Bool.and_eq_true, decide_eq_true_eq] at h
    obtain ⟨⟨⟨⟨rfl, rfl⟩, h1⟩, h2⟩, h3⟩ := h
    refine ⟨PT.imp (pt_chain (op_cmpD C.room.units op) (op_cmpD C.room.units op') (iha.e k raw sc X .brw _ C h1) (ihb.e k raw sc X .brw _ C h2) (ihc.e k raw sc X .brw _ C h3) (chain_marks op op' _ _)) fun σ H Q q => ?_, fun o a b r p hx => by cases hx⟩
    obtain ⟨w, ρ, r, b, rfl, k, en, e, q⟩ := q
    exact rd_chain k en (tst_eq e) fun w' l k' b' => ⟨r, rfl, q w' l k' b'⟩
  all_goals (intros; rfl)

theorem and_ev {G : Nat → Option D} {a b : E} {ρ : Env} {bx bx' : Bx} {d : D} (e : evE F G (.and a b) ρ bx = some (d, bx')) :
    (evE F G a ρ bx = some (.bl false, bx') ∧ d = .bl false) ∨ ∃ bx1 r, evE F G a ρ bx = some (.bl true, bx1) ∧ evE F G b ρ bx1 = some (.bl r, bx') ∧ d = .bl r := by
  simp only [evE] at e
  split at e
  · rename_i bx1 e1
    split at e <;> cases e
    rename_i e2
    exact .inr ⟨bx1, _, e1, e2, rfl⟩
  · rename_i bx1 e1
    cases e
    exact .inl ⟨e1, rfl⟩
  · cases e
theorem or_ev {G : Nat → Option D} {a b : E} {ρ : Env} {bx bx' : Bx} {d : D} (e : evE F G (.or a b) ρ bx = some (d, bx')) :
    (evE F G a ρ bx = some (.bl true, bx') ∧ d = .bl true) ∨ ∃ bx1 r, evE F G a ρ bx = some (.bl false, bx1) ∧ evE F G b ρ bx1 = some (.bl r, bx') ∧ d = .bl r := by
  simp only [evE] at e
  split at e
  · rename_i bx1 e1
    split at e <;> cases e
    rename_i e2
    exact .inr ⟨bx1, _, e1, e2, rfl⟩
  · rename_i bx1 e1
    cases e
    exact .inl ⟨e1, rfl⟩
  · cases e
theorem tst_of {G : Nat → Option D} {c : E} {ρ : Env} {bx b : Bx} {r : Bool} (h : evE F G c ρ bx = some (.bl r, b)) : tstE F G c ρ bx = some (r, b) := by
  unfold tstE
  rw [h]
theorem rd_and {K : PySem.W.Frag} {σ : St} {a b : E} {Γ : Gam} {H : Hp} {Q : Bool → Hp → Prop} (q : tT K Γ.kd e0 (tstE F Γ.G (.and a b)) σ H Q) : tAnd (tT K Γ.kd e0 (tstE F Γ.G a)) (tT K Γ.kd e0 (tstE F Γ.G b)) σ H Q := by
  obtain ⟨w, ρ, r, bx, rfl, k, en, e, q⟩ := q
  rcases and_ev (tst_eq e) with ⟨e1, e2⟩ | ⟨bx1, r', e1, e2, e3⟩
  · cases e2
    exact ⟨w, ρ, false, bx, rfl, k, en, tst_of e1, fun w1 l1 k1 b1 => iteF (q w1 l1 k1 b1)⟩
  · cases e3
    exact ⟨w, ρ, true, bx1, rfl, k, en, tst_of e1, fun w1 l1 k1 b1 => iteT ⟨w1, ρ, _, bx, rfl, k1, en.le l1, by rw [b1]; exact tst_of e2, fun w2 l2 k2 b2 => q w2 (l1.trans l2) k2 b2⟩⟩
theorem rd_or {K : PySem.W.Frag} {σ : St} {a b : E} {Γ : Gam} {H : Hp} {Q : Bool → Hp → Prop} (q : tT K Γ.kd e0 (tstE F Γ.G (.or a b)) σ H Q) : tOr (tT K Γ.kd e0 (tstE F Γ.G a)) (tT K Γ.kd e0 (tstE F Γ.G b)) σ H Q := by
  obtain ⟨w, ρ, r, bx, rfl, k, en, e, q⟩ := q
  rcases or_ev (tst_eq e) with ⟨e1, e2⟩ | ⟨bx1, r', e1, e2, e3⟩
  · cases e2
    exact ⟨w, ρ, true, bx, rfl, k, en, tst_of e1, fun w1 l1 k1 b1 => iteT (q w1 l1 k1 b1)⟩
  · cases e3
    exact ⟨w, ρ, false, bx1, rfl, k, en, tst_of e1, fun w1 l1 k1 b1 => iteF ⟨w1, ρ, _, bx, rfl, k1, en.le l1, by rw [b1]; exact tst_of e2, fun w2 l2 k2 b2 => q w2 (l1.trans l2) k2 b2⟩⟩
theorem snd_and (a b : E) (iha : Snd1 Γ F e0 a) (ihb : Snd1 Γ F e0 b) : Snd1 Γ F e0 (.and a b) := by
  refine .mk' (fun k raw sc X m x C h => ?_) (fun k raw sc X m x C h => ?_) ?_ ?_ ?_ ?_
  · cases x <;> try (simp only [ck] at h; cases h; done)
    rename_i o xs p
    rcases xs with _ | ⟨x, _ | ⟨y, r⟩⟩ <;> try (simp only [ck] at h; cases h; done)
    simp only [ck, Bool.and_eq_true, decide_eq_true_eq] at h
    obtain ⟨⟨rfl, h1⟩, h2⟩ := h
    have hb : PE X (.BoolOp .And (y :: r) p) (tEM Γ F e0 X .brw b) := by
      cases r with
      | nil => exact pe_one (ihb.e k raw sc X .brw _ C h2)
      | cons z r => exact ihb.e k raw sc X .brw _ C h2
    refine PE.of_frs (PE.imp (pe_and (iha.e k raw sc X .brw _ C h1) hb) fun σ H Q q => ?_) m
    obtain ⟨w, ρ, d, bx, rfl, k, en, e, q⟩ := q
    rcases and_ev e with ⟨e1, e2⟩ | ⟨bx1, r', e1, e2, e3⟩
    · cases e2
      exact ⟨w, ρ, _, bx, rfl, k, en, e1, fun w1 v1 l1 k1 b1 r1 => ⟨false, RepB.bl r1, iteF (q w1 _ l1 k1 b1 (.inl ⟨rfl, rfl⟩))⟩⟩
    · cases e3
      refine ⟨w, ρ, _, bx1, rfl, k, en, e1, fun w1 v1 l1 k1 b1 r1 => ⟨true, RepB.bl r1, iteT ⟨w1, ρ, _, bx, rfl, k1, en.le l1, by rw [b1]; exact e2, fun w2 v2 l2 k2 b2 r2 => ?_⟩⟩⟩
      exact q w2 _ (l1.trans l2) k2 b2 (.inl ⟨rfl, RepB.bl r2⟩)
  · cases x <;> try (simp only [ck] at h; cases h; done)
    rename_i o xs p
    rcases xs with _ | ⟨x, _ | ⟨y, r⟩⟩ <;> try (simp only [ck] at h; cases h; done)
    simp only [ck, Bool.and_eq_true, decide_eq_true_eq] at h
    obtain ⟨⟨rfl, h1⟩, h2⟩ := h
    have hb : PW X (.BoolOp .And (y :: r) p) (tTM Γ F e0 X b) := by
      cases r with
      | nil => exact pw_and1 (ihb.t k raw sc X .brw _ C h2).1
      | cons z r => exact (ihb.t k raw sc X .brw _ C h2).2 _ _ _ _ _ rfl
    have P : PW X (.BoolOp .And (x :: y :: r) p) (tTM Γ F e0 X (.and a b)) := PW.imp (pw_and (iha.t k raw sc X .brw _ C h1).1 hb) fun σ H Q q => rd_and q
    exact ⟨P.pt, fun o a b r p hx => P⟩
  all_goals (intros; rfl)
theorem snd_or (a b : E) (iha : Snd1 Γ F e0 a) (ihb : Snd1 Γ F e0 b) : Snd1 Γ F e0 (.or a b) := by
  refine .mk' (fun k raw sc X m x C h => ?_) (fun k raw sc X m x C h => ?_) ?_ ?_ ?_ ?_
  · cases x <;> try (simp only [ck] at h; cases h; done)
    rename_i o xs p
    rcases xs with _ | ⟨x, _ | ⟨y, r⟩⟩ <;> try (simp only [ck] at h; cases h; done)
    simp only [ck, Bool.and_eq_true, decide_eq_true_eq] at h
    obtain ⟨⟨rfl, h1⟩, h2⟩ := h
    have hb : PE X (.BoolOp .Or (y :: r) p) (tEM Γ F e0 X .brw b) := by
      cases r with
      | nil => exact pe_one (ihb.e k raw sc X .brw _ C h2)
      | cons z r => exact ihb.e k raw sc X .brw _ C h2
    refine PE.of_frs (PE.imp (pe_or (iha.e k raw sc X .brw _ C h1) hb) fun σ H Q q => ?_) m
    obtain ⟨w, ρ, d, bx, rfl, k, en, e, q⟩ := q
    rcases or_ev e with ⟨e1, e2⟩ | ⟨bx1, r', e1, e2, e3⟩
    · cases e2
      exact ⟨w, ρ, _, bx, rfl, k, en, e1, fun w1 v1 l1 k1 b1 r1 => ⟨true, RepB.bl r1, iteT (q w1 _ l1 k1 b1 (.inl ⟨rfl, rfl⟩))⟩⟩
    · cases e3
      refine ⟨w, ρ, _, bx1, rfl, k, en, e1, fun w1 v1 l1 k1 b1 r1 => ⟨false, RepB.bl r1, iteF ⟨w1, ρ, _, bx, rfl, k1, en.le l1, by rw [b1]; exact e2, fun w2 v2 l2 k2 b2 r2 => ?_⟩⟩⟩
      exact q w2 _ (l1.trans l2) k2 b2 (.inl ⟨rfl, RepB.bl r2⟩)
  · cases x <;> try (simp only [ck] at h; cases h; done)
    rename_i o xs p
    rcases xs with _ | ⟨x, _ | ⟨y, r⟩⟩ <;> try (simp only [ck] at h; cases h; done)
    simp only [ck, Bool.and_eq_true, decide_eq_true_eq] at h
    obtain ⟨⟨rfl, h1⟩, h2⟩ := h
    have hb : PW X (.BoolOp .Or (y :: r) p) (tTM Γ F e0 X b) := by
      cases r with
      | nil => exact pw_or1 (ihb.t k raw sc X .brw _ C h2).1
      | cons z r => exact (ihb.t k raw sc X .brw _ C h2).2 _ _ _ _ _ rfl
    have P : PW X (.BoolOp .Or (x :: y :: r) p) (tTM Γ F e0 X (.or a b)) := PW.imp (pw_or (iha.t k raw sc X .brw _ C h1).1 hb) fun σ H Q q => rd_or q
    exact ⟨P.pt, fun o a b r p hx => P⟩
  all_goals (intros; rfl)
theorem snd_not (a : E) (iha : Snd1 Γ F e0 a) : Snd1 Γ F e0 (.not a) := by
  refine .mk' (fun k raw sc X m x C h => ?_) (fun k raw sc X m x C h => ?_) ?_ ?_ ?_ ?_
  · cases x <;> simp only [ck] at h <;> try (cases h; done)
    simp only [Bool.and_eq_true, decide_eq_true_eq] at h
    obtain ⟨rfl, h1⟩ := h
    refine PE.of_frs (PE.imp (pe_not (iha.e k raw sc X .brw _ C h1)) fun σ H Q q => ?_) m
    obtain ⟨w, ρ, d, bx, rfl, k, en, e, q⟩ := q
    simp only [evE] at e
    split at e <;> cases e
    rename_i e1
    exact ⟨w, ρ, _, _, rfl, k, en, e1, fun w1 v1 l1 k1 b1 r1 => ⟨_, RepB.bl r1, q w1 _ l1 k1 b1 (.inl ⟨rfl, rfl⟩)⟩⟩
  · cases x <;> simp only [ck] at h <;> try (cases h; done)
    simp only [Bool.and_eq_true, decide_eq_true_eq] at h
    obtain ⟨rfl, h1⟩ := h
    refine ⟨PT.imp (pt_not (iha.t k raw sc X .brw _ C h1).1) fun σ H Q q => ?_, fun o a b r p hx => by cases hx⟩
    obtain ⟨w, ρ, r, bx, rfl, k, en, e, q⟩ := q
    have e := tst_eq e
    simp only [evE] at e
    split at e <;> cases e
    rename_i e1
    exact ⟨w, ρ, _, _, rfl, k, en, tst_of e1, fun w1 l1 k1 b1 => q w1 l1 k1 b1⟩
  all_goals (intros; rfl)
theorem ite_ev {G : Nat → Option D} {c a b : E} {ρ : Env} {bx bx' : Bx} {d : D} (e : evE F G (.ite c a b) ρ bx = some (d, bx')) :
    ∃ bx1 r, evE F G c ρ bx = some (.bl r, bx1) ∧ (if r = true then evE F G a ρ bx1 else evE F G b ρ bx1) = some (d, bx') := by
  simp only [evE] at e
  split at e
  · rename_i bx1 e1
    exact ⟨bx1, true, e1, e⟩
  · rename_i bx1 e1
    exact ⟨bx1, false, e1, e⟩
  · cases e
theorem snd_ite (c a b : E) (ihc : Snd1 Γ F e0 c) (iha : Snd1 Γ F e0 a) (ihb : Snd1 Γ F e0 b) : Snd1 Γ F e0 (.ite c a b) := by
  refine .mk' (fun k raw sc X m x C h => ?_) (fun k raw sc X m x C h => ?_) ?_ ?_ ?_ ?_
  · cases x <;> simp only [ck] at h <;> try (cases h; done)
    simp only [Bool.and_eq_true] at h
    obtain ⟨⟨h1, h2⟩, h3⟩ := h
    refine PE.imp (pe_ifExp (ihc.t k raw sc X .brw _ C h1).1 (iha.e k raw sc X m _ C h2) (ihb.e k raw sc X m _ C h3)) fun σ H Q q => ?_
    obtain ⟨w, ρ, d, bx, rfl, k, en, e, q⟩ := q
    obtain ⟨bx1, r, e1, e2⟩ := ite_ev e
    refine ⟨w, ρ, r, bx1, rfl, k, en, tst_of e1, fun w1 l1 k1 b1 => ?_⟩
    cases r with
    | true => exact iteT ⟨w1, ρ, d, bx, rfl, k1, en.le l1, by rw [b1]; exact e2, fun w2 v2 l2 k2 b2 r2 => q w2 v2 (l1.trans l2) k2 b2 (r2.pre l1)⟩
    | false => exact iteF ⟨w1, ρ, d, bx, rfl, k1, en.le l1, by rw [b1]; exact e2, fun w2 v2 l2 k2 b2 r2 => q w2 v2 (l1.trans l2) k2 b2 (r2.pre l1)⟩
  · cases x <;> simp only [ck] at h <;> try (cases h; done)
    simp only [Bool.and_eq_true] at h
    obtain ⟨⟨h1, h2⟩, h3⟩ := h
    refine ⟨⟨fun pins s σ H Q I q => ?_⟩, fun o a b r p hx => by cases hx⟩
    obtain ⟨w, ρ, r, bx, rfl, k', en, e, q⟩ := q
    obtain ⟨bx1, rc, e1, e2⟩ := ite_ev (tst_eq e)
    refine PyProof.Rows.isTrue_IfExp (thn ((ihc.t k raw sc X .brw _ C h1).1.run pins s σ w.H (fun b' H' => b' = rc ∧ ∃ w1, w1.H = H' ∧ Le w w1 ∧ Ok X.K w1 ∧ w1.bx = bx1) I ⟨w, ρ, rc, bx1, rfl, k', en, tst_of e1, fun w1 l1 k1 b1 => ⟨rfl, w1, rfl, l1, k1, b1⟩⟩) ?_)
    rintro b' s1 ⟨H1, I1, rfl, w1, rfl, l1, k1, b1⟩
    cases b' with
    | true =>
      refine iteT ((iha.t k raw sc X m _ C h2).1.run pins s1 σ w1.H Q I1 ⟨w1, ρ, r, bx, rfl, k1, en.le l1, ?_, fun w2 l2 k2 b2 => q w2 (l1.trans l2) k2 b2⟩)
      rw [b1]
      exact tst_of e2
    | false =>
      refine iteF ((ihb.t k raw sc X m _ C h3).1.run pins s1 σ w1.H Q I1 ⟨w1, ρ, r, bx, rfl, k1, en.le l1, ?_, fun w2 l2 k2 b2 => q w2 (l1.trans l2) k2 b2⟩)
      rw [b1]
      exact tst_of e2
  all_goals (intros; rfl)
theorem snd_idx (a i : E) (iha : Snd1 Γ F e0 a) (ihi : Snd1 Γ F e0 i) : Snd1 Γ F e0 (.idx a i) := by
  refine .mkP (fun k raw sc X m x C h => ?_) (fun sc m x h => ?_) ?_ ?_ ?_ ?_
  · cases x <;> simp only [ck] at h <;> try (cases h; done)
    simp only [Bool.and_eq_true, Bool.not_eq_true'] at h
    obtain ⟨⟨⟨h0, h1⟩, h2⟩, h3⟩ := h
    refine PE.of_val (PE.imp (pe_ix ix_D (iha.e k raw sc X .brw _ C h1) (ihi.e k raw sc X .brw _ C h2) (plain_ix h3)) fun σ H Q q => ?_) (by rintro rfl; cases h0)
    obtain ⟨w, ρ, d, bx, rfl, k, en, e, q⟩ := q
    simp only [evE] at e
    split at e
    · cases e
    · rename_i d1 bx1 e1
      split at e
      · cases e
      · rename_i d2 bx2 e2
        split at e <;> cases e
        rename_i e3
        refine ⟨w, ρ, d1, bx1, rfl, k, en, e1, fun w1 v1 l1 k1 b1 r1 => ⟨w1, ρ, d2, _, rfl, k1, en.le l1, by rw [b1]; exact e2, fun w2 v2 l2 k2 b2 r2 => ?_⟩⟩
        exact ⟨w2, d1, d2, d, rfl, k2, RepB.le l2 r1, r2, by rw [b2]; exact e3, fun v r => q w2 v (l1.trans l2) k2 b2 r⟩
  · cases x <;> simp only [ck] at h <;> try (cases h; done)
    refine ⟨rfl, ?_⟩
    simp only [ck, Bool.and_eq_true] at h ⊢
    exact ⟨⟨⟨rfl, h.1.1.2⟩, h.1.2⟩, h.2⟩
  all_goals (intros; rfl)
theorem snd_slc (a l h : E) (iha : Snd1 Γ F e0 a) (ihl : Snd1 Γ F e0 l) (ihh : Snd1 Γ F e0 h) : Snd1 Γ F e0 (.slc a l h) := by
  refine .mkP (fun k raw sc X m x C hh => ?_) (fun sc m x hh => ?_) ?_ ?_ ?_ ?_
  · cases x <;> try (simp only [ck] at hh; cases hh; done)
    rename_i x y p
    cases y <;> try (simp only [ck] at hh; cases hh; done)
    rename_i lo hi st p2
    cases st <;> try (simp only [ck] at hh; cases hh; done)
    simp only [ck, Bool.and_eq_true] at hh
    obtain ⟨⟨h1, h2⟩, h3⟩ := hh
    refine PE.of_frs (PE.imp (pe_slice sl_D (iha.e k raw sc X .brw _ C h1) (ihl.o k raw sc X _ C h2) (ihh.o k raw sc X _ C h3)) fun σ H Q q => ?_) m
    obtain ⟨w, ρ, d, bx, rfl, k, en, e, q⟩ := q
    simp only [evE] at e
    split at e
    · cases e
    · rename_i d1 bx1 e1
      split at e
      · cases e
      · rename_i lo1 bx2 e2
        split at e
        · cases e
        · rename_i hi1 bx3 e3
          split at e <;> cases e
          rename_i e4
          refine ⟨w, ρ, d1, bx1, rfl, k, en, e1, fun w1 v1 l1 k1 b1 r1 => ⟨w1, ρ, lo1, _, rfl, k1, en.le l1, by rw [b1]; exact e2, fun w2 l2 k2 b2 => ⟨w2, ρ, hi1, _, rfl, k2, en.le (l1.trans l2), by rw [b2]; exact e3, fun w3 l3 k3 b3 => ?_⟩⟩⟩
          have l13 := (l1.trans l2).trans l3
          exact ⟨w3, d1, d, rfl, k3, RepB.le (l2.trans l3) r1, e4, fun w4 v4 l4 k4 b4 r4 => q w4 v4 (l13.trans l4) k4 (b4.trans b3) (RepF.pre l13 r4)⟩
  · cases x <;> try (simp only [ck] at hh; cases hh; done)
    rename_i x y p
    cases y <;> try (simp only [ck] at hh; cases hh; done)
    rename_i lo hi st p2
    cases st <;> try (simp only [ck] at hh; cases hh; done)
    exact ⟨rfl, by simp only [ck] at hh ⊢; exact hh⟩
  all_goals (intros; rfl)
end
end Dk

set_option autoImplicit false
set_option linter.all false
set_option Elab.async false
set_option maxRecDepth 100000
set_option maxHeartbeats 4000000
/-! DkSnd3: calls, comprehensions, walks; all expressions. Own work. -/
namespace Dk
open PySem PySem.Spec PyProof.Rows L2
section
variable {Γ : Gam} {F : Nat → List D → Bx → Option (D × Bx)} {e0 : Hp}

theorem ckA_star {m : Md} {sc : Scope} : ∀ (es : E) (xs : List Expr), ckA Γ es sc m xs = true → xs.all noStar = true := by
  intro es
  induction es with
  | nil => intro xs h; cases xs <;> first | rfl | (simp only [ckA] at h; cases h)
  | cons e es _ ih =>
    intro xs h
    cases xs with
    | nil => rfl
    | cons x xs =>
      simp only [ckA, Bool.and_eq_true] at h
      rw [List.all_cons, h.1.2, ih xs h.2]
      rfl
  | _ => intro xs h; cases (show false = true from h)
theorem ckA_len {m : Md} {sc : Scope} {G : Nat → Option D} : ∀ (es : E) (xs : List Expr) (ρ : Env) (bx bx' : Bx) (ds : List D), ckA Γ es sc m xs = true → evA F G es ρ bx = some (ds, bx') → ds.length = xs.length := by
  intro es
  induction es with
  | nil =>
    intro xs ρ bx bx' ds h e
    cases xs <;> simp only [ckA] at h <;> try (cases h; done)
    simp only [evA] at e
    cases e
    rfl
  | cons e es _ ih =>
    intro xs ρ bx bx' ds h e
    cases xs with
    | nil => simp only [ckA] at h; cases h
    | cons x xs =>
      simp only [ckA, Bool.and_eq_true] at h
      simp only [evA] at e
      split at e
      · cases e
      · split at e
        · cases e
        · rename_i e2
          cases e
          rw [List.length_cons, List.length_cons, ih xs _ _ _ _ h.2 e2]
  | _ => intro xs ρ bx bx' ds h e; cases (show false = true from h)

theorem glB_of {sc : Scope} {a x : Str} (h : ckN a sc x = true) : x = a ∧ glB sc x = true := by
  unfold ckN at h
  simp only [Bool.and_eq_true, decide_eq_true_eq] at h
  exact h
theorem snd_isi (a : E) (t : Ty) (iha : Snd1 Γ F e0 a) : Snd1 Γ F e0 (.isi a t) := by
  refine .mkP (fun k raw sc X m x C h => ?_) (fun sc m x h => ?_) ?_ ?_ ?_ ?_
  · cases x <;> try (simp only [ck] at h; cases h; done)
    rename_i fn xs kws p
    cases fn <;> try (simp only [ck] at h; cases h; done)
    rename_i f pf
    rcases xs with _ | ⟨x, _ | ⟨y, _ | ⟨z, xs⟩⟩⟩ <;> try (simp only [ck] at h; cases h; done)
    rcases kws with _ | ⟨kw, kws⟩ <;> try (cases y <;> simp only [ck] at h <;> cases h; done)
    cases y <;> try (simp only [ck] at h; cases h; done)
    rename_i ty pt
    simp only [ck, Bool.and_eq_true] at h
    obtain ⟨⟨⟨h1, h2⟩, h3⟩, h4⟩ := h
    obtain ⟨rfl, g1⟩ := glB_of h1
    obtain ⟨rfl, g2⟩ := glB_of h3
    obtain ⟨f1, f2, f3⟩ := glB_ok C.sc g1
    obtain ⟨t1, t2, t3⟩ := glB_ok C.sc g2
    have hty : X.mg (Str.ofString (tyN t)) = none := C.blt _ (by cases t <;> (unfold bltNames tyN; simp))
    have hvt : bootBuiltins (Str.ofString (tyN t)) = some (.type (tyN t)) := by cases t <;> decide +kernel
    have hb : PE X (.Name (Str.ofString (tyN t)) pt) (tC (.ty (tyN t))) := pe_bltn t1 hty hvt rfl t3 t2
    have hst : starEach [x, .Name (Str.ofString (tyN t)) pt] X.env = (false, eval x X.env) :: starEach [.Name (Str.ofString (tyN t)) pt] X.env := star_cons h4
    have hal : (backTo p (starEach [.Name (Str.ofString (tyN t)) pt] X.env)).any (·.1) = false := star_any (es := [.Name (Str.ofString (tyN t)) pt]) rfl
    refine PE.of_frs (PE.imp (pe_callB call_isi f1 (C.blt _ (by unfold bltNames; simp)) (by decide +kernel) (pa_cons (iha.e k raw sc X .brw _ C h2) (pa_cons hb pa_nil) hst) f3 f2 hst hal) fun σ H Q q => ?_) m
    obtain ⟨w, ρ, d, bx, rfl, k, en, e, q⟩ := q
    simp only [evE] at e
    split at e
    · rename_i d1 bx1 e1
      split at e <;> cases e
      rename_i e2
      refine ⟨w, ρ, d1, _, rfl, k, en, e1, fun w1 v1 l1 k1 b1 r1 => ?_⟩
      obtain ⟨n, ty, kt⟩ := isi_D k1 r1 e2
      exact ⟨v1, .ty (tyN t), .type n, .type (tyN t), _, rfl, .ty _, ty, kt, q w1 _ l1 k1 b1 (.inl ⟨rfl, rfl⟩)⟩
    · cases e
  · cases x <;> try (simp only [ck] at h; cases h; done)
    rename_i fn xs kws p
    cases fn <;> try (simp only [ck] at h; cases h; done)
    rename_i f pf
    rcases xs with _ | ⟨x, _ | ⟨y, _ | ⟨z, xs⟩⟩⟩ <;> try (simp only [ck] at h; cases h; done)
    rcases kws with _ | ⟨kw, kws⟩ <;> try (cases y <;> simp only [ck] at h <;> cases h; done)
    cases y <;> try (simp only [ck] at h; cases h; done)
    exact ⟨rfl, by simp only [ck] at h ⊢; exact h⟩
  all_goals (intros; rfl)

theorem snd_call (f : Nat) (es : E) (ih : Snd1 Γ F e0 es) : Snd1 Γ F e0 (.call f es) := by
  refine .mkP (fun k raw sc X m x C h => ?_) (fun sc m x h => ?_) ?_ ?_ ?_ ?_
  · cases x <;> try (simp only [ck] at h; cases h; done)
    rename_i fn xs kws p
    cases fn <;> try (simp only [ck] at h; cases h; done)
    rename_i x pf
    rcases kws with _ | ⟨kw, kws⟩ <;> try (simp only [ck] at h; cases h; done)
    simp only [ck, Bool.and_eq_true, decide_eq_true_eq, Bool.or_eq_true, Bool.not_eq_true'] at h
    obtain ⟨⟨⟨h1, h2⟩, h3⟩, h4⟩ := h
    obtain ⟨g1, g2, g3⟩ := glB_ok C.sc h2
    obtain ⟨fa, fd, ps, hps, hm, hk, FO, hb⟩ := C.fns f x _ h1
    have hst := ckA_star es xs h3
    -- the promise, in the mode that is asked
    have go : ∀ m', (m' = .val ∨ m' = .frs) → FnG X.prog X.w X.K X.mg X.base k fa fd ps (spD X.K m' (F f) xs.length) → PE X (.Call (.Name x pf) xs [] p) (tEM Γ F e0 X m' (.call f es)) := fun m' hm' FO' => by
      have rd : ∀ σ H Q, tEM Γ F e0 X m' (.call f es) σ H Q → (fun σ H Q => tA X.K Γ.kd e0 (evA F Γ.G es) σ H fun vs H1 => spD X.K m' (F f) xs.length vs H1 Q E0) σ H Q := fun σ H Q q => by
        obtain ⟨w, ρ, d, bx, rfl, k, en, e, q⟩ := q
        simp only [evE] at e
        split at e
        · rename_i ds bx1 e1
          refine ⟨w, ρ, ds, bx1, rfl, k, en, e1, fun w1 vs l1 k1 b1 r1 => ?_⟩
          exact ⟨by rw [← r1.length]; exact ckA_len es xs _ _ _ _ h3 e1, w1, ds, d, bx, rfl, k1, r1, by rw [b1]; exact e, fun w2 v2 l2 k2 b2 r2 => q w2 v2 (l1.trans l2) k2 b2 (r2.pre l1)⟩
        · cases e
      cases xs with
      | nil =>
        have hnil : es = .nil := by
          cases es <;> first | rfl | (cases (show false = true from h3))
        subst hnil
        refine PE.imp (pe_own0 FO' ⟨C.room, C.gd⟩ g1 hm hk hb g2) fun σ H Q q => ?_
        obtain ⟨w, ρ, ds, b, hH, k, en, e, q2⟩ := rd σ H Q q
        simp only [evA] at e
        cases e
        subst hH
        exact q2 w [] (Le.refl k) k rfl rfl
      | cons y ys =>
        rw [List.all_cons, Bool.and_eq_true] at hst
        exact PE.imp (pe_own FO' ⟨C.room, C.gd⟩ g1 hm hk hb (ih.av k raw sc X _ C h3) g2 (star_cons hst.1) (star_any hst.2)) rd
    cases hfr : Γ.fr f with
    | true =>
      rw [hfr, if_pos rfl] at FO
      exact PE.of_frs (go .frs (.inr rfl) FO) m
    | false =>
      rw [hfr, if_neg Bool.false_ne_true] at FO
      rw [hfr] at h4
      refine PE.of_val (go .val (.inl rfl) FO) ?_
      rintro rfl
      rcases h4 with h4 | h4 <;> cases h4
  · cases x <;> try (simp only [ck] at h; cases h; done)
    rename_i fn xs kws p
    cases fn <;> try (simp only [ck] at h; cases h; done)
    rename_i x pf
    rcases kws with _ | ⟨kw, kws⟩ <;> try (simp only [ck] at h; cases h; done)
    refine ⟨rfl, ?_⟩
    simp only [ck, Bool.and_eq_true] at h ⊢
    exact ⟨h.1, rfl⟩
  all_goals (intros; rfl)

theorem bltV_boot (f : Blt) : bootBuiltins (bltX f) = some (bltV f) := by cases f <;> decide +kernel
theorem bltX_in (f : Blt) : bltX f ∈ bltNames := by cases f <;> (unfold bltNames bltX; simp)
theorem snd_blt (f : Blt) (es : E) (ih : Snd1 Γ F e0 es) : Snd1 Γ F e0 (.blt f es) := by
  refine .mkP (fun k raw sc X m x C h => ?_) (fun sc m x h => ?_) ?_ ?_ ?_ ?_
  · cases x <;> try (simp only [ck] at h; cases h; done)
    rename_i fn xs kws p
    cases fn <;> try (simp only [ck] at h; cases h; done)
    rename_i x pf
    rcases xs with _ | ⟨y, ys⟩ <;> try (simp only [ck] at h; cases h; done)
    rcases kws with _ | ⟨kw, kws⟩ <;> try (simp only [ck] at h; cases h; done)
    simp only [ck, Bool.and_eq_true] at h
    obtain ⟨h1, h2⟩ := h
    obtain ⟨rfl, h3⟩ := glB_of h1
    obtain ⟨g1, g2, g3⟩ := glB_ok C.sc h3
    have hst := ckA_star es _ h2
    rw [List.all_cons, Bool.and_eq_true] at hst
    have hm := C.blt _ (bltX_in f)
    have hv := bltV_boot f
    have hc := cr_D (X := X) C.calm C.room.units2 C.gd f
    have rd : ∀ σ H Q, tEM Γ F e0 X .frs (.blt f es) σ H Q → tCB (rBl X.K f) (tAB X.K Γ.kd e0 (evA F Γ.G es)) σ H Q := fun σ H Q q => by
      obtain ⟨w, ρ, d, bx, rfl, k, en, e, q⟩ := q
      simp only [evE] at e
      split at e
      · rename_i ds bx1 e1
        split at e <;> cases e
        rename_i e2
        exact ⟨w, ρ, ds, _, rfl, k, en, e1, fun w1 vs l1 k1 b1 r1 => ⟨w1, ds, d, rfl, k1, r1, e2, fun w2 v2 l2 k2 b2 r2 => q w2 v2 (l1.trans l2) k2 (b2.trans b1) (RepF.pre l1 r2)⟩⟩
      · cases e
    refine PE.of_frs (PE.imp ?_ rd) m
    have ha := ih.ab k raw sc X _ C h2
    cases f with
    | len => exact pe_callB hc g1 hm hv ha g3 g2 (star_cons hst.1) (star_any hst.2)
    | abs => exact pe_callB hc g1 hm hv ha g3 g2 (star_cons hst.1) (star_any hst.2)
    | max2 => exact pe_callB hc g1 hm hv ha g3 g2 (star_cons hst.1) (star_any hst.2)
    | all => exact pe_callB hc g1 hm hv ha g3 g2 (star_cons hst.1) (star_any hst.2)
    | tuple => exact pe_callTy hc g1 hm hv ha g3 g2 (star_cons hst.1) (star_any hst.2)
    | list => exact pe_callTy hc g1 hm hv ha g3 g2 (star_cons hst.1) (star_any hst.2)
    | repr => exact pe_callB hc g1 hm hv ha g3 g2 (star_cons hst.1) (star_any hst.2)
    | int => exact pe_callTy hc g1 hm hv ha g3 g2 (star_cons hst.1) (star_any hst.2)
    | rng1 => exact pe_callTy hc g1 hm hv ha g3 g2 (star_cons hst.1) (star_any hst.2)
  · cases x <;> try (simp only [ck] at h; cases h; done)
    rename_i fn xs kws p
    cases fn <;> try (simp only [ck] at h; cases h; done)
    rename_i x pf
    rcases xs with _ | ⟨y, ys⟩ <;> try (simp only [ck] at h; cases h; done)
    rcases kws with _ | ⟨kw, kws⟩ <;> try (simp only [ck] at h; cases h; done)
    exact ⟨rfl, by simp only [ck] at h ⊢; exact h⟩
  all_goals (intros; rfl)

theorem relS_keep {scope sc : Scope} {x : Str} {k : NameKind} (hk : k ≠ .free) (h : scope.names.lookup x = some k) : (relS scope sc).names.lookup x = some k := lookup_relS_keep hk h
theorem Cond.blk {k : Nat} {raw sc : Scope} {X : Cx} (C : Cond Γ F k raw sc X) (s : Shared) (H : Hp) (scope : Scope) (A : Addr) (cl : List (Str × Addr)) (fp : List Addr) :
    Cond Γ F k scope (relS scope sc) (X.blk s H scope (compEnvC scope cl A X.env) fp) where
  N := C.N
  nd := C.nd
  sc := by
    show relabel scope X.env = _
    rw [← C.sc]
    rfl
  calm := C.calm
  room := C.room
  gd := C.gd
  blt := C.blt
  glo := C.glo
  fns := C.fns
  asn := fun x h => by
    have e : ∀ k, k ≠ NameKind.free → scope.names.lookup x = some k → (relabel scope X.env).names.lookup x = some k := fun k hk hx => relS_keep (scope := scope) (sc := X.env.scope) hk hx
    rcases h with h | h
    · exact ⟨.inl (e _ (by decide) h), .inr (e _ (by decide) h)⟩
    · refine ⟨.inr (e _ (by decide) h), .inl ?_⟩
      show (scope.names.lookup x == some .cell) = true
      rw [h]
      rfl
theorem snd_comp (t : T) (it c e : E) (own : List Nat) (ihi : Snd1 Γ F e0 it) (ihc : Snd1 Γ F e0 c) (ihe : Snd1 Γ F e0 e) : Snd1 Γ F e0 (.comp t it c e own) := by
  refine .mkP (fun k raw sc X m x C h => ?_) (fun sc m x h => ?_) ?_ ?_ ?_ ?_
  · cases x <;> try (simp only [ck] at h; cases h; done)
    rename_i elt gens scope p
    rcases gens with _ | ⟨⟨tg, iter, ifs, a⟩, _ | ⟨g2, gens⟩⟩ <;> try (simp only [ck] at h; cases h; done)
    simp only [ck, Bool.and_eq_true, decide_eq_true_eq] at h
    obtain ⟨⟨⟨⟨⟨⟨⟨h0, h1⟩, h2⟩, h3⟩, h4⟩, h5⟩, h6⟩, h7⟩ := h
    subst h0
    have hown : (ownL Γ own).map (·.2) = own := by
      unfold ownL
      rw [List.map_map]
      show own.map (fun i => i) = own
      exact List.map_id _
    have P := pe_lc (pos := p) (te := tE X.K Γ.kd e0 .val (evE F Γ.G e)) (tt := tT X.K Γ.kd e0 (evC F Γ.G c)) (g := gD X.K Γ.kd e0 t) C.calm (by rw [C.N]; exact C.nd) (ihi.i k raw sc X tg iter C h2) (blkOk_by (own := ownL Γ own) (by rw [C.N, C.sc]; exact h1))
      (fun s H A cl fp => (sndT (e0 := e0) (C.blk s H scope A cl fp) t).1 tg h4) (fun s H A cl fp => ihc.c k _ _ _ ifs (C.blk s H scope A cl fp) h6) (fun s H A cl fp => ihe.e k _ _ _ .val elt (C.blk s H scope A cl fp) h7) (set_iter h3)
    rw [hown] at P
    refine PE.of_frs (PE.imp P fun σ H Q q => ?_) m
    refine lc_D (fun i hi => ?_) ?_
    · have := List.all_eq_true.mp h5 i hi
      simpa using this
    · obtain ⟨w, ρ, d, bx, rfl, k, en, e, q⟩ := q
      simp only [evE] at e
      exact ⟨w, ρ, d, bx, rfl, k, en, e, q⟩
  · cases x <;> try (simp only [ck] at h; cases h; done)
    rename_i elt gens scope p
    rcases gens with _ | ⟨⟨tg, iter, ifs, a⟩, _ | ⟨g2, gens⟩⟩ <;> try (simp only [ck] at h; cases h; done)
    exact ⟨rfl, by simp only [ck] at h ⊢; exact h⟩
  all_goals (intros; rfl)

theorem snd_nil : Snd1 Γ F e0 .nil where
  e := fun k raw sc X m x C h => by cases (show false = true from h)
  t := fun k raw sc X m x C h => by cases (show false = true from h)
  av := fun k raw sc X xs C h => by
    cases xs <;> simp only [ckA] at h <;> try (cases h; done)
    refine PA.imp pa_nil fun σ H Q q => ?_
    obtain ⟨w, ρ, ds, b, rfl, k, en, e, q⟩ := q
    simp only [evA] at e
    cases e
    exact q w [] (Le.refl k) k rfl rfl
  ab := fun k raw sc X xs C h => by
    cases xs <;> simp only [ckA] at h <;> try (cases h; done)
    refine PA.imp pa_nil fun σ H Q q => ?_
    obtain ⟨w, ρ, ds, b, rfl, k, en, e, q⟩ := q
    simp only [evA] at e
    cases e
    exact q w [] (Le.refl k) k rfl rfl
  i := fun k raw sc X tg x C h => by cases (show false = true from h)
  o := fun k raw sc X x C h => by
    cases x <;> simp only [ckO] at h <;> try (cases h; done)
    refine PO.imp po_none fun σ H Q q => ?_
    obtain ⟨w, ρ, o, b, rfl, k, en, e, q⟩ := q
    simp only [evO] at e
    cases e
    exact q w (Le.refl k) k rfl
  c := fun k raw sc X xs C h => by
    cases xs <;> simp only [ckC] at h <;> try (cases h; done)
    refine PTs.imp pts_nil fun σ H Q q => ?_
    obtain ⟨w, ρ, r, b, rfl, k, en, e, q⟩ := q
    simp only [evC] at e
    cases e
    exact q w (Le.refl k) k rfl
theorem snd_cons (a as : E) (iha : Snd1 Γ F e0 a) (ihas : Snd1 Γ F e0 as) : Snd1 Γ F e0 (.cons a as) where
  e := fun k raw sc X m x C h => by cases (show false = true from h)
  t := fun k raw sc X m x C h => by cases (show false = true from h)
  av := fun k raw sc X xs C h => by
    cases xs with
    | nil => simp only [ckA] at h; cases h
    | cons x xs =>
      simp only [ckA, Bool.and_eq_true] at h
      refine PA.imp (pa_cons (iha.e k raw sc X .val x C h.1.1) (ihas.av k raw sc X xs C h.2) (star_cons h.1.2)) fun σ H Q q => ?_
      obtain ⟨w, ρ, ds, b, rfl, k, en, e, q⟩ := q
      simp only [evA] at e
      split at e
      · cases e
      · rename_i d bx1 e1
        split at e
        · cases e
        · rename_i e2
          cases e
          exact ⟨w, ρ, d, bx1, rfl, k, en, e1, fun w1 v1 l1 k1 b1 r1 => ⟨w1, ρ, _, _, rfl, k1, en.le l1, by rw [b1]; exact e2, fun w2 vs l2 k2 b2 r2 => q w2 _ (l1.trans l2) k2 b2 ⟨v1, vs, rfl, Rep.le l2 r1, r2⟩⟩⟩
  ab := fun k raw sc X xs C h => by
    cases xs with
    | nil => simp only [ckA] at h; cases h
    | cons x xs =>
      simp only [ckA, Bool.and_eq_true] at h
      refine PA.imp (pa_cons (iha.e k raw sc X .brw x C h.1.1) (ihas.ab k raw sc X xs C h.2) (star_cons h.1.2)) fun σ H Q q => ?_
      obtain ⟨w, ρ, ds, b, rfl, k, en, e, q⟩ := q
      simp only [evA] at e
      split at e
      · cases e
      · rename_i d bx1 e1
        split at e
        · cases e
        · rename_i e2
          cases e
          exact ⟨w, ρ, d, bx1, rfl, k, en, e1, fun w1 v1 l1 k1 b1 r1 => ⟨w1, ρ, _, _, rfl, k1, en.le l1, by rw [b1]; exact e2, fun w2 vs l2 k2 b2 r2 => q w2 _ (l1.trans l2) k2 b2 ⟨v1, vs, rfl, RepB.le l2 r1, r2⟩⟩⟩
  i := fun k raw sc X tg x C h => by cases (show false = true from h)
  o := fun k raw sc X x C h => by
    cases as <;> cases x <;> simp only [ckO] at h <;> try (cases h; done)
    refine PO.imp (po_some (iha.e k raw sc X .brw _ C h)) fun σ H Q q => ?_
    obtain ⟨w, ρ, o, b, rfl, k, en, e, q⟩ := q
    simp only [evO] at e
    split at e <;> cases e
    rename_i e1
    exact ⟨w, ρ, _, _, rfl, k, en, e1, fun w1 v1 l1 k1 b1 r1 => ⟨_, RepB.int r1, q w1 l1 k1 b1⟩⟩
  c := fun k raw sc X xs C h => by
    cases as <;> try (cases (show false = true from h); done)
    rcases xs with _ | ⟨x, _ | ⟨y, xs⟩⟩ <;> simp only [ckC] at h <;> try (cases h; done)
    refine PTs.imp (pts_one (iha.t k raw sc X .brw _ C h).1) fun σ H Q q => ?_
    obtain ⟨w, ρ, r, b, rfl, k, en, e, q⟩ := q
    simp only [evC] at e
    split at e <;> cases e
    rename_i e1
    exact ⟨w, ρ, _, _, rfl, k, en, tst_of e1, q⟩
/-- a term that is walked alone -/
theorem Snd1.mkI {ir : E} (i : ∀ (k : Nat) (raw sc : Scope) (X : Cx) (tg x : Expr), Cond Γ F k raw sc X → ckI Γ ir sc tg x = true → PI X tg x (tI X.K Γ.kd e0 (evI F Γ.G ir)))
    (h1 : ∀ sc m x, ck Γ ir sc m x = false) (ha : ∀ sc m xs, ckA Γ ir sc m xs = false) (ho : ∀ sc x, ckO Γ ir sc x = false) (hc : ∀ sc xs, ckC Γ ir sc xs = false) : Snd1 Γ F e0 ir :=
  ⟨fun _ _ _ _ _ _ _ h => (by rw [h1] at h; cases h), fun _ _ _ _ _ _ _ h => (by rw [h1] at h; cases h), fun _ _ _ _ _ _ h => (by rw [ha] at h; cases h), fun _ _ _ _ _ _ h => (by rw [ha] at h; cases h), i, fun _ _ _ _ _ _ h => (by rw [ho] at h; cases h), fun _ _ _ _ _ _ h => (by rw [hc] at h; cases h)⟩
theorem itemsD_jok {K : PySem.W.Frag} {w : Wd} (k : Ok K w) {d : D} {ds : List D} {v : V} (e : itemsD d = some ds) (r : Rep K w.Z w.B d v) {R : It → Hp → Prop} (q : ∀ J, JOk K w J ds → R J w.H) :
    (∃ a xs, v = .ref a ∧ SqL K w.H a xs ∧ R (Itl K a) w.H) ∨ (∃ a xs, v = .ref a ∧ SqT K w.H a xs ∧ R (Itt K a) w.H) ∨
    (∃ a lo hi, v = .ref a ∧ w.H a = some (.rng lo hi) ∧ -(2 ^ 62) ≤ lo ∧ lo < 2 ^ 62 ∧ -(2 ^ 62) ≤ hi ∧ hi < 2 ^ 62 ∧ R (Itr lo (hi - lo).toNat) w.H) := by
  cases d with
  | tup ds' =>
    simp only [itemsD] at e
    cases e
    obtain ⟨a, vs, rfl, hl, s, t⟩ := id r
    exact .inr (.inl ⟨a, vs, rfl, SqT.up k.sub s, q _ (jok_tup r)⟩)
  | lst ds' =>
    simp only [itemsD] at e
    cases e
    obtain ⟨a, vs, rfl, hl, s, t⟩ := id r
    exact .inl ⟨a, vs, rfl, SqL.of (k.sub _ _ s), q _ (jok_lst r)⟩
  | rng lo hi =>
    simp only [itemsD] at e
    split at e <;> cases e
    rename_i hn
    obtain ⟨a, rfl, s⟩ := id r
    exact .inr (.inr ⟨a, lo, hi, rfl, k.sub _ _ s, by omega, by omega, by omega, by omega, q _ (jok_rng hn.2.2.2.2)⟩)
  | _ => simp only [itemsD] at e; cases e
theorem snd_ival (a : E) (iha : Snd1 Γ F e0 a) : Snd1 Γ F e0 (.ival a) := by
  refine .mkI (fun k raw sc X tg x C h => ?_) ?_ ?_ ?_ ?_
  · simp only [ckI] at h
    refine PI.imp (pi_any (iha.e k raw sc X .val x C h)) fun σ H R q => ?_
    obtain ⟨w, ρ, ds, b, rfl, k, en, e, q⟩ := q
    simp only [evI] at e
    split at e
    · rename_i d bx1 e1
      split at e <;> cases e
      rename_i e2
      exact ⟨w, ρ, d, _, rfl, k, en, e1, fun w1 v1 l1 k1 b1 r1 => itemsD_jok k1 e2 r1 fun J j => q w1 J l1 k1 b1 j⟩
    · cases e
  all_goals (intros; rfl)
theorem snd_irng (a : E) (iha : Snd1 Γ F e0 a) : Snd1 Γ F e0 (.irng a) := by
  refine .mkI (fun k raw sc X tg x C h => ?_) ?_ ?_ ?_ ?_
  · cases x <;> try (simp only [ckI] at h; cases h; done)
    rename_i fn xs kws p
    cases fn <;> try (simp only [ckI] at h; cases h; done)
    rename_i f pf
    rcases xs with _ | ⟨x, _ | ⟨y, xs⟩⟩ <;> rcases kws with _ | ⟨kw, kws⟩ <;> try (simp only [ckI] at h; cases h; done)
    simp only [ckI, Bool.and_eq_true] at h
    obtain ⟨⟨h1, h2⟩, h3⟩ := h
    obtain ⟨rfl, h4⟩ := glB_of h1
    obtain ⟨g1, g2, g3⟩ := glB_ok C.sc h4
    refine PI.imp (pi_range1 g1 (C.blt _ (by unfold bltNames; simp)) (pa_cons (iha.e k raw sc X .brw x C h2) pa_nil (star_cons h3)) (by rw [star_cons h3]; rfl)) fun σ H R q => ?_
    obtain ⟨w, ρ, ds, b, rfl, k, en, e, q⟩ := q
    simp only [evI] at e
    split at e
    · rename_i j bx1 e1
      split at e <;> cases e
      rename_i hj
      refine ⟨w, ρ, _, _, rfl, k, en, e1, fun w1 v1 l1 k1 b1 r1 => ⟨j, by rw [RepB.int r1], by omega, by omega, q w1 _ l1 k1 b1 (jok_rng ?_)⟩⟩
      show j.toNat ≤ 16777216
      omega
    · cases e
  all_goals (intros; rfl)
theorem snd_irng2 (a b : E) (iha : Snd1 Γ F e0 a) (ihb : Snd1 Γ F e0 b) : Snd1 Γ F e0 (.irng2 a b) := by
  refine .mkI (fun k raw sc X tg x C h => ?_) ?_ ?_ ?_ ?_
  · cases x <;> try (simp only [ckI] at h; cases h; done)
    rename_i fn xs kws p
    cases fn <;> try (simp only [ckI] at h; cases h; done)
    rename_i f pf
    rcases xs with _ | ⟨x, _ | ⟨y, _ | ⟨z, xs⟩⟩⟩ <;> rcases kws with _ | ⟨kw, kws⟩ <;> try (simp only [ckI] at h; cases h; done)
    simp only [ckI, Bool.and_eq_true] at h
    obtain ⟨⟨⟨⟨h1, h2⟩, h3⟩, h5⟩, h6⟩ := h
    obtain ⟨rfl, h4⟩ := glB_of h1
    obtain ⟨g1, g2, g3⟩ := glB_ok C.sc h4
    refine PI.imp (pi_range2 g1 (C.blt _ (by unfold bltNames; simp)) (pa_cons (iha.e k raw sc X .brw x C h2) (pa_cons (ihb.e k raw sc X .brw y C h5) pa_nil (star_cons h6)) (star_cons h3)) (by rw [star_cons h3, star_cons h6]; rfl) (by rw [star_cons h6]; rfl)) fun σ H R q => ?_
    obtain ⟨w, ρ, ds, b, rfl, k, en, e, q⟩ := q
    simp only [evI] at e
    split at e
    · rename_i i bx1 e1
      split at e
      · rename_i j bx2 e2
        split at e <;> cases e
        rename_i hj
        exact ⟨w, ρ, _, _, rfl, k, en, e1, fun w1 v1 l1 k1 b1 r1 => ⟨w1, ρ, _, _, rfl, k1, en.le l1, by rw [b1]; exact e2, fun w2 v2 l2 k2 b2 r2 => ⟨i, j, by rw [RepB.int r1, RepB.int r2], ⟨by omega, by omega, by omega, by omega⟩, q w2 _ (l1.trans l2) k2 b2 (jok_rng hj.2.2.2.2)⟩⟩⟩
      · cases e
    · cases e
  all_goals (intros; rfl)
theorem snd_ienum (a : E) (iha : Snd1 Γ F e0 a) : Snd1 Γ F e0 (.ienum a) := by
  refine .mkI (fun k raw sc X tg x C h => ?_) ?_ ?_ ?_ ?_
  · cases tg <;> try (simp only [ckI] at h; cases h; done)
    cases x <;> try (simp only [ckI] at h; cases h; done)
    rename_i fn xs kws p
    cases fn <;> try (simp only [ckI] at h; cases h; done)
    rename_i f pf
    rcases xs with _ | ⟨x, _ | ⟨y, xs⟩⟩ <;> rcases kws with _ | ⟨kw, kws⟩ <;> try (simp only [ckI] at h; cases h; done)
    simp only [ckI, Bool.and_eq_true] at h
    obtain ⟨⟨h1, h2⟩, h3⟩ := h
    obtain ⟨rfl, h4⟩ := glB_of h1
    obtain ⟨g1, g2, g3⟩ := glB_ok C.sc h4
    refine PI.imp (pi_enum g1 (C.blt _ (by unfold bltNames; simp)) (pa_cons (iha.e k raw sc X .val x C h2) pa_nil (star_cons h3)) (by rw [star_cons h3]; rfl)) fun σ H R q => ?_
    obtain ⟨w, ρ, ds, b, rfl, k, en, e, q⟩ := q
    simp only [evI] at e
    split at e
    · rename_i ds bx1 e1
      cases e
      refine ⟨w, ρ, _, _, rfl, k, en, e1, fun w1 v1 l1 k1 b1 r1 => ?_⟩
      have r1 : Rep X.K w1.Z w1.B (.lst ds) v1 := r1
      obtain ⟨a, vs, rfl, hl, s, t⟩ := id r1
      exact ⟨a, vs, rfl, SqL.of (k1.sub _ _ s), q w1 _ l1 k1 b1 (jok_enum r1)⟩
    · cases e
  all_goals (intros; rfl)
/-- ALL EXPRESSIONS -/
theorem snd : ∀ ir : E, Snd1 Γ F e0 ir := by
  intro ir
  induction ir with
  | nil => exact snd_nil
  | cons e es h1 h2 => exact snd_cons e es h1 h2
  | var i => exact snd_var i
  | con c => exact snd_con c
  | glo g => exact snd_glo g
  | tup es h => exact snd_tup es h
  | lst es h => exact snd_lst es h
  | bin op a b h1 h2 => exact snd_bin op a b h1 h2
  | neg a h => exact snd_neg a h
  | cmp op a b h1 h2 => exact snd_cmp op a b h1 h2
  | chain op op' a b c h1 h2 h3 => exact snd_chain op op' a b c h1 h2 h3
  | and a b h1 h2 => exact snd_and a b h1 h2
  | or a b h1 h2 => exact snd_or a b h1 h2
  | not a h => exact snd_not a h
  | ite c a b h1 h2 h3 => exact snd_ite c a b h1 h2 h3
  | idx a i h1 h2 => exact snd_idx a i h1 h2
  | slc a l h h1 h2 h3 => exact snd_slc a l h h1 h2 h3
  | isi a t h => exact snd_isi a t h
  | call f es h => exact snd_call f es h
  | blt f es h => exact snd_blt f es h
  | comp t it c e own h1 h2 h3 => exact snd_comp t it c e own h1 h2 h3
  | ival a h => exact snd_ival a h
  | irng a h => exact snd_irng a h
  | irng2 a b h1 h2 => exact snd_irng2 a b h1 h2
  | ienum a h => exact snd_ienum a h
end
end Dk

set_option autoImplicit false
set_option linter.all false
set_option Elab.async false
set_option maxRecDepth 100000
set_option maxHeartbeats 4000000
/-! DkStm: statements. Own work. -/
namespace Dk
open PySem PySem.Spec PyProof.Rows L2

/-! ### readings -/
def Post (K : PySem.W.Frag) (kd : List Bool) (w0 : Wd) (rm : Md) (D : Ends) (w : Wd) (ρ' : Env) (b : Bx) : Flow → Prop
  | .ret d => ∀ (w' : Wd) (v : V), Le w0 w' → Ok K w' → w'.bx = b → RepM K rm w0 w' d v → D.rt v w'.H
  | .nx => ∀ (w' : Wd) (σ' : St), Le w0 w' → Lz w w' → Ok K w' → w'.bx = b → EnvOk K kd w0.H w' σ' ρ' → D.nx σ' w'.H
  | .bk => ∀ (w' : Wd) (σ' : St), Le w0 w' → Lz w w' → Ok K w' → w'.bx = b → EnvOk K kd w0.H w' σ' ρ' → D.bk σ' w'.H
  | .ct => ∀ (w' : Wd) (σ' : St), Le w0 w' → Lz w w' → Ok K w' → w'.bx = b → EnvOk K kd w0.H w' σ' ρ' → D.ct σ' w'.H
def tS (K : PySem.W.Frag) (kd : List Bool) (w0 : Wd) (rm : Md) (g : Env → Bx → Option (Flow × Env × Bx)) : TS := fun D σ H => ∃ (w : Wd) (ρ : Env) (fl : Flow) (ρ' : Env) (b : Bx), w.H = H ∧ Le w0 w ∧ Ok K w ∧ EnvOk K kd w0.H w σ ρ ∧ g ρ w.bx = some (fl, ρ', b) ∧
  Post K kd w0 rm D w ρ' b fl
theorem Post.up {K : PySem.W.Frag} {kd : List Bool} {w0 : Wd} {rm : Md} {D : Ends} {w w1 : Wd} {ρ' : Env} {b : Bx} {fl : Flow} (z : Lz w w1) (q : Post K kd w0 rm D w ρ' b fl) : Post K kd w0 rm D w1 ρ' b fl := by
  cases fl with
  | ret d => exact q
  | nx => exact fun w2 σ2 l2 z2 => q w2 σ2 l2 (z.trans z2)
  | bk => exact fun w2 σ2 l2 z2 => q w2 σ2 l2 (z.trans z2)
  | ct => exact fun w2 σ2 l2 z2 => q w2 σ2 l2 (z.trans z2)

structure CondS (Γ : Gam) (F : Nat → List D → Bx → Option (D × Bx)) (k : Nat) (sc : Scope) (X : Cx) : Prop where
  c : Cond Γ F k sc sc X
  kind : sc.kind = .function
  xe : X.xe = fun _ _ => False

section
variable {Γ : Gam} {F : Nat → List D → Bx → Option (D × Bx)} {w0 : Wd} {rm : Md} {K : PySem.W.Frag} {kd : List Bool}

/-! ### owned slots -/
theorem EnvOk.putO {e0 : Hp} {w : Wd} {σ : St} {ρ : Env} {i : Nat} {d : D} {a : Addr} {o : HO} (h : EnvOk K kd e0 w σ ρ) (hk : kd[i]? = some true) (hz : w.Z a = none) (hb : a ∉ w.B) (ho : w.H a = some o) (c : Cell K w.Z w.B d o) (h0 : e0 a = none)
    (hs : ∀ (j : Nat) (d' : D) (b : Addr), j ≠ i → kd[j]? = some true → ρ[j]? = some (some d') → σ[j]? = some (some (.ref b)) → b ≠ a) : EnvOk K kd e0 w (σ.set i (some (.ref a))) (ρ.set i (some d)) where
  ls := by rw [List.length_set]; exact h.ls
  lr := by rw [List.length_set]; exact h.lr
  dat := fun j e h1 h2 => by
    have hj : i ≠ j := fun q => by rw [q, h1] at hk; cases hk
    rw [List.getElem?_set_ne hj] at h2 ⊢
    exact h.dat j e h1 h2
  own := fun j e h1 h2 => by
    by_cases hj : i = j
    · subst hj
      have hl : i < σ.length := by rw [h.ls]; exact (List.getElem?_eq_some_iff.mp hk).1
      have hr : i < ρ.length := by rw [h.lr]; exact (List.getElem?_eq_some_iff.mp hk).1
      rw [List.getElem?_set_self hr] at h2
      cases h2
      exact ⟨a, o, List.getElem?_set_self hl, hz, hb, ho, c, h0⟩
    · rw [List.getElem?_set_ne hj] at h2 ⊢
      exact h.own j e h1 h2
  sep := fun j l d1 d2 b h1 h2 h3 h4 h5 h6 => by
    have hl : i < σ.length := by rw [h.ls]; exact (List.getElem?_eq_some_iff.mp hk).1
    by_cases hj : i = j
    · by_cases hl' : i = l
      · rw [← hj, ← hl']
      · subst hj
        rw [List.getElem?_set_self hl] at h5
        cases h5
        rw [List.getElem?_set_ne hl'] at h4 h6
        exact absurd rfl (hs l d2 _ (Ne.symm hl') h2 h4 h6)
    · by_cases hl' : i = l
      · subst hl'
        rw [List.getElem?_set_self hl] at h6
        cases h6
        rw [List.getElem?_set_ne hj] at h3 h5
        exact absurd rfl (hs j d1 _ (Ne.symm hj) h1 h3 h5)
      · rw [List.getElem?_set_ne hj] at h3 h5
        rw [List.getElem?_set_ne hl'] at h4 h6
        exact h.sep j l d1 d2 b h1 h2 h3 h4 h5 h6
/-- a value that nobody else has goes to an owned slot; w: where the slots were told, ahead of its making -/
theorem EnvOk.putF {e0 : Hp} {w w1 : Wd} {σ : St} {ρ : Env} {i : Nat} {ds : List D} {v : V} (h : EnvOk K kd e0 w σ ρ) (l : Le w w1) (hk : kd[i]? = some true) (r : RepF K w w1 (.lst ds) v) (h0 : ∀ a, w.H a = none → e0 a = none) :
    EnvOk K kd e0 w1 (σ.set i (some v)) (ρ.set i (some (.lst ds))) := by
  rcases r with ⟨i, _⟩ | ⟨a, o, rfl, hw, hz, hb, ho, c⟩
  · cases i
  · refine (h.le l).putO hk hz hb ho c (h0 a hw) fun j d' b _ h1 h2 h3 e => ?_
    obtain ⟨a', o', e1, _, _, ho', _⟩ := h.own j d' h1 h2
    rw [h3] at e1
    cases e1
    rw [e, hw] at ho'
    cases ho'

/-! ### blocks -/
theorem rd_nil {D : Ends} {σ : St} {H : Hp} {G : Nat → Option Dk.D} (q : tS K kd w0 rm (exS F G .nil) D σ H) : tNext D σ H := by
  obtain ⟨w, ρ, fl, ρ', b, rfl, l, k, en, e, q⟩ := q
  simp only [exS] at e
  cases e
  exact q w σ l Lz.refl k rfl en
theorem rd_seq {s ss : S} {D : Ends} {σ : St} {H : Hp} {G : Nat → Option Dk.D} (q : tS K kd w0 rm (exS F G (.seq s ss)) D σ H) : tSeq (tS K kd w0 rm (exS F G s)) (tS K kd w0 rm (exS F G ss)) D σ H := by
  obtain ⟨w, ρ, fl, ρ', b, rfl, l, k, en, e, q⟩ := q
  simp only [exS] at e
  split at e
  · cases e
  · rename_i ρ1 bx1 e1
    exact ⟨w, ρ, .nx, ρ1, bx1, rfl, l, k, en, e1, fun w1 σ1 l1 z1 k1 b1 en1 => ⟨w1, ρ1, fl, ρ', b, rfl, l1, k1, en1, by rw [b1]; exact e, q.up z1⟩⟩
  · rename_i f ρ1 bx1 hne e1
    cases e
    refine ⟨w, ρ, _, _, _, rfl, l, k, en, e1, ?_⟩
    cases fl with
    | ret d => exact q
    | nx => first | exact (hne _ e1).elim | exact (hne e1).elim | exact (hne _ rfl).elim | exact (hne rfl).elim | (trace_state; exact (hne _ _ rfl).elim)
    | bk => exact q
    | ct => exact q

/-! ### what a text's statement may be -/
def noComp : Expr → Bool
  | .ListComp .. => false
  | .SetComp .. => false
  | .DictComp .. => false
  | _ => true
theorem noComp_sw {v : Expr} {tg : Option Expr} {line : Nat} {env : PySem.Env} (h : noComp v = true) : swapsWith v tg line env = pure false := by
  cases v <;> first | rfl | cases h
def noTup : Expr → Bool
  | .Tuple .. => false
  | _ => true
theorem noTup_sw {v : Expr} {tg : List Expr} {env : PySem.Env} (h : noTup v = true) : swappedStores tg v env = pure none := by
  unfold swappedStores
  cases v <;> first | (cases h; done) | skip
  all_goals (split <;> first | rfl | skip)
  all_goals (rename_i hx; split at hx <;> first | (cases hx; done) | (rename_i heq; cases heq))

/-! ### control -/
theorem rd_if {c : E} {a b : S} {D : Ends} {σ : St} {H : Hp} {G : Nat → Option Dk.D} (q : tS K kd w0 rm (exS F G (.ite c a b)) D σ H) : tIfS (tT K kd w0.H (tstE F G c)) (tS K kd w0 rm (exS F G a)) (tS K kd w0 rm (exS F G b)) D σ H := by
  obtain ⟨w, ρ, fl, ρ', bx, rfl, l, k, en, e, q⟩ := q
  simp only [exS] at e
  split at e
  · rename_i bx1 e1
    exact ⟨w, ρ, true, bx1, rfl, k, en, e1, fun w1 l1 k1 b1 => iteT ⟨w1, ρ, fl, ρ', bx, rfl, l.trans l1, k1, en.le l1, by rw [b1]; exact e, q.up l1.lz⟩⟩
  · rename_i bx1 e1
    exact ⟨w, ρ, false, bx1, rfl, k, en, e1, fun w1 l1 k1 b1 => iteF ⟨w1, ρ, fl, ρ', bx, rfl, l.trans l1, k1, en.le l1, by rw [b1]; exact e, q.up l1.lz⟩⟩
  · cases e
theorem rd_for {t : T} {it : E} {bd : S} {D : Ends} {σ : St} {H : Hp} {G : Nat → Option Dk.D} (q : tS K kd w0 rm (exS F G (.for_ t it bd)) D σ H) : tFor (tI K kd w0.H (evI F G it)) (gD K kd w0.H t) (tS K kd w0 rm (exS F G bd)) D σ H := by
  obtain ⟨w, ρ, fl, ρ', bx, rfl, l, k, en, e, q⟩ := q
  simp only [exS] at e
  split at e
  · cases e
  · rename_i ds bx1 e1
    refine ⟨w, ρ, ds, bx1, rfl, k, en, e1, fun w1 J l1 k1 b1 j => ?_⟩
    generalize hst : (fun d ρ bx => match bindT t d ρ with
      | none => none
      | some ρ1 => exS F G bd ρ1 bx : Dk.D → Env → Bx → Option (Flow × Env × Bx)) = step at e
    refine ⟨fun i m σ H => m = ds.length - i ∧ i ≤ ds.length ∧ ∃ (w2 : Wd) (ρ2 : Env), w2.H = H ∧ Le w0 w2 ∧ Lz w1 w2 ∧ Ok K w2 ∧ EnvOk K kd w0.H w2 σ ρ2 ∧ forL step (ds.drop i) ρ2 w2.bx = some (fl, ρ', bx),
      ⟨ds.length, rfl, Nat.zero_le _, w1, ρ, rfl, l.trans l1, Lz.refl, k1, en.le l1, by rw [List.drop_zero, b1]; exact e⟩, ?_⟩
    rintro i m σ2 H2 ⟨rfl, hi, w2, ρ2, rfl, l2, z2, k2, en2, e2⟩
    by_cases hlt : i < ds.length
    · refine .inr ⟨j.go w2 i z2 k2 hlt, fun σ H => ∃ (w3 : Wd) (ρ3 : Env), w3.H = H ∧ Le w0 w3 ∧ Lz w1 w3 ∧ Ok K w3 ∧ EnvOk K kd w0.H w3 σ ρ3 ∧ forL step (ds.drop (i + 1)) ρ3 w3.bx = some (fl, ρ', bx),
        fun σ' H' h => ⟨ds.length - (i + 1), by omega, rfl, hlt, h⟩, fun x H' hy => ?_⟩
      obtain ⟨w3, l3, k3, b3, rfl, rx⟩ := j.yld w2 i x H' ds[i] z2 k2 hy (List.getElem?_eq_getElem hlt)
      rw [List.drop_eq_getElem_cons hlt] at e2
      simp only [forL] at e2
      have z3 : Lz w1 w3 := z2.trans l3.lz
      -- the turn itself
      have turn : ∀ (N : St → Hp → Prop) (fl1 : Flow) ρ1 bx3, step ds[i] ρ2 w2.bx = some (fl1, ρ1, bx3) → Post K kd w0 rm { D with nx := N, ct := N, bk := D.nx } w3 ρ1 bx3 fl1 →
          gD K kd w0.H t x σ2 w3.H fun σ4 H4 => tS K kd w0 rm (exS F G bd) { D with nx := N, ct := N, bk := D.nx } σ4 H4 := by
        intro N fl1 ρ1 bx3 hs qs
        rw [← hst] at hs
        simp only at hs
        split at hs
        · cases hs
        · rename_i ρ3 hb
          refine ⟨w3, ρ2, ds[i], ρ3, rfl, k3, en2.le l3, rx, hb, fun σ4 en4 _ => ?_⟩
          exact ⟨w3, ρ3, fl1, ρ1, bx3, rfl, l2.trans l3, k3, en4, by rw [b3]; exact hs, qs⟩
      split at e2
      · cases e2
      · rename_i ρ1 bx3 hs
        exact turn _ .nx ρ1 bx3 hs fun w4 σ4 l4 z4 k4 b4 en4 => ⟨w4, ρ1, rfl, l4, z3.trans z4, k4, en4, by rw [b4]; exact e2⟩
      · rename_i ρ1 bx3 hs
        exact turn _ .ct ρ1 bx3 hs fun w4 σ4 l4 z4 k4 b4 en4 => ⟨w4, ρ1, rfl, l4, z3.trans z4, k4, en4, by rw [b4]; exact e2⟩
      · rename_i ρ1 bx3 hs
        cases e2
        exact turn _ .bk _ _ hs fun w4 σ4 l4 z4 k4 b4 en4 => q w4 σ4 l4 (l1.lz.trans (z3.trans z4)) k4 b4 en4
      · rename_i d ρ1 bx3 hs
        cases e2
        exact turn _ (.ret d) _ _ hs q
    · have hie : i = ds.length := by omega
      subst hie
      rw [List.drop_length] at e2
      simp only [forL] at e2
      cases e2
      exact .inl ⟨j.stop w2 _ z2 k2 (Nat.le_refl _), q w2 σ2 l2 (l1.lz.trans z2) k2 rfl en2⟩
theorem rd_while {c : E} {bd : S} {D : Ends} {σ : St} {H : Hp} {G : Nat → Option Dk.D} (q : tS K kd w0 rm (exS F G (.while_ c bd)) D σ H) : tWhile (tT K kd w0.H (tstE F G c)) (tS K kd w0 rm (exS F G bd)) D σ H := by
  obtain ⟨w, ρ, fl, ρ', bx, rfl, l, k, en, e, q⟩ := q
  simp only [exS] at e
  refine ⟨fun m σ H => ∃ (w2 : Wd) (ρ2 : Env), w2.H = H ∧ Le w0 w2 ∧ Lz w w2 ∧ Ok K w2 ∧ EnvOk K kd w0.H w2 σ ρ2 ∧ whL (tstE F G c) (fun ρ bx => exS F G bd ρ bx) m ρ2 w2.bx = some (fl, ρ', bx), ⟨WF, w, ρ, rfl, l, Lz.refl, k, en, e⟩, ?_⟩
  rintro m σ2 H2 ⟨w2, ρ2, rfl, l2, z2, k2, en2, e2⟩
  cases m with
  | zero => simp only [whL] at e2; cases e2
  | succ m =>
    simp only [whL] at e2
    split at e2
    · cases e2
    · rename_i bx1 e1
      cases e2
      exact ⟨w2, _, false, _, rfl, k2, en2, e1, fun w3 l3 k3 b3 => iteF (q w3 σ2 (l2.trans l3) (z2.trans l3.lz) k3 b3 (en2.le l3))⟩
    · rename_i bx1 e1
      refine ⟨w2, ρ2, true, _, rfl, k2, en2, e1, fun w3 l3 k3 b3 => iteT ?_⟩
      refine ⟨fun σ H => ∃ (w2 : Wd) (ρ2 : Env), w2.H = H ∧ Le w0 w2 ∧ Lz w w2 ∧ Ok K w2 ∧ EnvOk K kd w0.H w2 σ ρ2 ∧ whL (tstE F G c) (fun ρ bx => exS F G bd ρ bx) m ρ2 w2.bx = some (fl, ρ', bx), fun σ' H' h => ⟨m, Nat.lt_succ_self m, h⟩, ?_⟩
      have z3 := z2.trans l3.lz
      rw [← b3] at e2
      split at e2
      · cases e2
      · rename_i ρ1 bx3 hs
        exact ⟨w3, ρ2, .nx, ρ1, bx3, rfl, l2.trans l3, k3, en2.le l3, hs, fun w4 σ4 l4 z4 k4 b4 en4 => ⟨w4, ρ1, rfl, l4, z3.trans z4, k4, en4, by rw [b4]; exact e2⟩⟩
      · rename_i ρ1 bx3 hs
        exact ⟨w3, ρ2, .ct, ρ1, bx3, rfl, l2.trans l3, k3, en2.le l3, hs, fun w4 σ4 l4 z4 k4 b4 en4 => ⟨w4, ρ1, rfl, l4, z3.trans z4, k4, en4, by rw [b4]; exact e2⟩⟩
      · rename_i ρ1 bx3 hs
        cases e2
        exact ⟨w3, ρ2, .bk, _, _, rfl, l2.trans l3, k3, en2.le l3, hs, fun w4 σ4 l4 z4 k4 b4 en4 => q w4 σ4 l4 (z3.trans z4) k4 b4 en4⟩
      · rename_i d ρ1 bx3 hs
        cases e2
        exact ⟨w3, ρ2, .ret d, _, _, rfl, l2.trans l3, k3, en2.le l3, hs, q⟩
theorem rd_ret {x : E} {D : Ends} {σ : St} {H : Hp} {G : Nat → Option Dk.D} (q : tS K kd w0 rm (exS F G (.ret x)) D σ H) : tRet (tE K kd w0.H rm (evE F G x)) D σ H := by
  obtain ⟨w, ρ, fl, ρ', bx, rfl, l, k, en, e, q⟩ := q
  simp only [exS] at e
  split at e <;> cases e
  rename_i e1
  exact ⟨w, ρ, _, _, rfl, k, en, e1, fun w1 v l1 k1 b1 r1 => q w1 v (l.trans l1) k1 b1 (r1.pre l)⟩
theorem rd_exp {x : E} {D : Ends} {σ : St} {H : Hp} {G : Nat → Option Dk.D} (q : tS K kd w0 rm (exS F G (.exp x)) D σ H) : tDrop (tE K kd w0.H .brw (evE F G x)) D σ H := by
  obtain ⟨w, ρ, fl, ρ', bx, rfl, l, k, en, e, q⟩ := q
  simp only [exS] at e
  split at e <;> cases e
  rename_i e1
  exact ⟨w, ρ, _, _, rfl, k, en, e1, fun w1 v l1 k1 b1 r1 => q w1 σ (l.trans l1) l1.lz k1 b1 (en.le l1)⟩
end
end Dk

set_option autoImplicit false
set_option linter.all false
set_option Elab.async false
set_option maxRecDepth 100000
set_option maxHeartbeats 4000000
/-! DkStm2: stores; all statements. Own work. -/
namespace Dk
open PySem PySem.Spec PyProof.Rows L2
section
variable {Γ : Gam} {F : Nat → List D → Bx → Option (D × Bx)} {w0 : Wd} {rm : Md} {K : PySem.W.Frag} {kd : List Bool} {G : Nat → Option D}

/-! ### stores to slots -/
theorem rd_asg {t : T} {x : E} {D : Ends} {σ : St} {H : Hp} (q : tS K kd w0 rm (exS F G (.asg t x)) D σ H) : tAsg (tE K kd w0.H .val (evE F G x)) (gD K kd w0.H t) D σ H := by
  obtain ⟨w, ρ, fl, ρ', bx, rfl, l, k, en, e, q⟩ := q
  simp only [exS] at e
  split at e
  · cases e
  · rename_i d bx1 e1
    split at e <;> cases e
    rename_i e2
    exact ⟨w, ρ, d, _, rfl, k, en, e1, fun w1 v l1 k1 b1 r1 => ⟨w1, ρ, d, _, rfl, k1, en.le l1, r1, e2, fun σ' en' _ => q w1 σ' (l.trans l1) l1.lz k1 b1 en'⟩⟩
/-- .. by a plain name's store -/
theorem rd_asgN {i : Nat} {x : E} {D : Ends} {σ : St} {H : Hp} (hk : kd[i]? = some false) (q : tS K kd w0 rm (exS F G (.asg (.nam i) x)) D σ H) : tE K kd w0.H .val (evE F G x) σ H fun v H1 => gName i v σ H1 D.nx := by
  obtain ⟨w, ρ, fl, ρ', bx, rfl, l, k, en, e, q⟩ := q
  simp only [exS, bindT] at e
  split at e
  · cases e
  · rename_i d bx1 e1
    cases e
    exact ⟨w, ρ, d, _, rfl, k, en, e1, fun w1 v l1 k1 b1 r1 => q w1 _ (l.trans l1) l1.lz k1 b1 ((en.le l1).put hk r1)⟩
theorem rd_own {i : Nat} {x : E} {D : Ends} {σ : St} {H : Hp} (hk : kd[i]? = some true) (q : tS K kd w0 rm (exS F G (.own i x)) D σ H) : tE K kd w0.H .frs (evE F G x) σ H fun v H1 => gName i v σ H1 D.nx := by
  obtain ⟨w, ρ, fl, ρ', bx, rfl, l, k, en, e, q⟩ := q
  simp only [exS] at e
  split at e <;> cases e
  rename_i e1
  exact ⟨w, ρ, _, _, rfl, k, en, e1, fun w1 v l1 k1 b1 r1 => q w1 _ (l.trans l1) l1.lz k1 b1 (en.putF l1 hk r1 fun a ha => l.free ha)⟩
/-- a list becomes a box -/
theorem newBox {w w1 : Wd} {ds : List D} {v : V} (l : Le w w1) (k : Ok K w1) (r : RepF K w w1 (.lst ds) v) :
    ∃ w2, Le w w2 ∧ Lz w1 w2 ∧ Ok K w2 ∧ w2.bx = w1.bx ++ [.lst ds] ∧ w2.H = w1.H ∧ Rep K w2.Z w2.B (.ref w1.bx.length) v ∧ ∀ (kd : List Bool) (e0 : Hp) (σ : St) (ρ : Env), EnvOk K kd e0 w σ ρ → EnvOk K kd e0 w2 σ ρ := by
  rcases r with ⟨i, _⟩ | ⟨a, o, rfl, hw, hz, hb, ho, c⟩
  · cases i
  · have bget : ∀ (n : Nat) (b : Addr), w1.B[n]? = some b → (w1.B ++ [a])[n]? = some b := fun n b h => (List.getElem?_append_left (List.getElem?_eq_some_iff.mp h).1).trans h
    have l2 : Le w ⟨w1.Z, w1.H, w1.B ++ [a], w1.bx ++ [.lst ds]⟩ := by
      obtain ⟨more, e, hm⟩ := l.b
      refine ⟨l.z, ⟨more ++ [a], by rw [e, List.append_assoc], fun b h => ?_⟩, l.h, l.n, l.hb⟩
      rcases List.mem_append.mp h with h | h
      · exact hm b h
      · rw [List.mem_singleton.mp h]; exact hw
    have cup : ∀ {d : D} {o : HO}, Cell K w1.Z w1.B d o → Cell K w1.Z (w1.B ++ [a]) d o := fun {d o} h => by
      cases d with
      | lst ds =>
        obtain ⟨vs, e, hl, r⟩ := h
        exact ⟨vs, e, hl, r.up (Same.refl _) bget⟩
      | _ => exact h
    refine ⟨_, l2, ⟨Same.refl _, bget⟩, ⟨k.sub, by rw [List.length_append, List.length_append, k.len]; rfl, ?_, fun n d b h1 h2 => ?_⟩, rfl, rfl, ⟨a, rfl, ?_⟩, fun kd e0 σ ρ en => en.le l2⟩
    · exact List.nodup_append.mpr ⟨k.nd, by simp, fun b h c hc => by rw [List.mem_singleton.mp hc]; exact fun e => hb (e ▸ h)⟩
    · have h1 : (w1.bx ++ [D.lst ds])[n]? = some d := h1
      have h2 : (w1.B ++ [a])[n]? = some b := h2
      by_cases hn : n < w1.bx.length
      · rw [List.getElem?_append_left hn] at h1
        rw [List.getElem?_append_left (by rw [k.len]; exact hn)] at h2
        obtain ⟨z, u, hu, cu⟩ := k.box n d b h1 h2
        exact ⟨z, u, hu, cup cu⟩
      · have hn' : n = w1.bx.length := by
          have := (List.getElem?_eq_some_iff.mp h1).1
          rw [List.length_append, List.length_singleton] at this
          omega
        subst hn'
        rw [List.getElem?_append_right (Nat.le_refl _), Nat.sub_self] at h1
        rw [← k.len, List.getElem?_append_right (Nat.le_refl _), Nat.sub_self] at h2
        simp at h1 h2
        subst h1 h2
        exact ⟨hz, o, ho, cup c⟩
    · show (w1.B ++ [a])[w1.bx.length]? = some a
      rw [← k.len, List.getElem?_append_right (Nat.le_refl _), Nat.sub_self]
      rfl
theorem rd_box {i : Nat} {x : E} {D : Ends} {σ : St} {H : Hp} (hk : kd[i]? = some false) (q : tS K kd w0 rm (exS F G (.box i x)) D σ H) : tE K kd w0.H .frs (evE F G x) σ H fun v H1 => gName i v σ H1 D.nx := by
  obtain ⟨w, ρ, fl, ρ', bx, rfl, l, k, en, e, q⟩ := q
  simp only [exS] at e
  split at e <;> cases e
  rename_i e1
  refine ⟨w, ρ, _, _, rfl, k, en, e1, fun w1 v l1 k1 b1 r1 => ?_⟩
  obtain ⟨w2, l2, z2, k2, b2, h2, r2, en2⟩ := newBox l1 k1 r1
  show D.nx (σ.set i (some v)) w1.H
  rw [← h2]
  refine q w2 _ (l.trans l2) (l1.lz.trans z2) k2 (by rw [b2, b1]) ?_
  rw [b1] at r2
  exact (en2 _ _ _ _ en).put hk r2

/-- an owned list is changed -/
theorem EnvOk.poke {e0 : Hp} {w : Wd} {σ : St} {ρ : Env} {i : Nat} {d d' : D} {a : Addr} {o : HO} (h : EnvOk K kd e0 w σ ρ) (hk : kd[i]? = some true) (hr : ρ[i]? = some (some d)) (hs : σ[i]? = some (some (.ref a))) (c : Cell K w.Z w.B d' o) :
    EnvOk K kd e0 ⟨w.Z, upd w.H a o, w.B, w.bx⟩ σ (ρ.set i (some d')) where
  ls := h.ls
  lr := by rw [List.length_set]; exact h.lr
  dat := fun j e h1 h2 => by
    have hj : i ≠ j := fun q => by rw [q, h1] at hk; cases hk
    rw [List.getElem?_set_ne hj] at h2
    exact h.dat j e h1 h2
  own := fun j e h1 h2 => by
    by_cases hj : i = j
    · subst hj
      have hl : i < ρ.length := (List.getElem?_eq_some_iff.mp hr).1
      rw [List.getElem?_set_self hl] at h2
      cases h2
      obtain ⟨a', o', e1, hz, hb, ho, _, h0⟩ := h.own i d hk hr
      rw [hs] at e1
      cases e1
      exact ⟨a, o, hs, hz, hb, upd_same, c, h0⟩
    · rw [List.getElem?_set_ne hj] at h2
      obtain ⟨a', o', e1, hz, hb, ho, c', h0⟩ := h.own j e h1 h2
      have hne : a' ≠ a := fun q => by
        rw [q] at e1
        exact hj (h.sep i j d e a hk h1 hr h2 hs e1)
      exact ⟨a', o', e1, hz, hb, (upd_ne hne).trans ho, c', h0⟩
  sep := fun j l d1 d2 b h1 h2 h3 h4 h5 h6 => by
    have at_ : ∀ (j : Nat) (d1 : D), (ρ.set i (some d'))[j]? = some (some d1) → ∃ d2, ρ[j]? = some (some d2) := fun j d1 h => by
      by_cases hj : i = j
      · subst hj; exact ⟨d, hr⟩
      · rw [List.getElem?_set_ne hj] at h; exact ⟨d1, h⟩
    obtain ⟨e1, g1⟩ := at_ j d1 h3
    obtain ⟨e2, g2⟩ := at_ l d2 h4
    exact h.sep j l e1 e2 b h1 h2 g1 g2 h5 h6
theorem rd_app {i : Nat} {x : E} {D : Ends} {σ : St} {H : Hp} (hk : kd[i]? = some true) (q : tS K kd w0 rm (exS F G (.app i x)) D σ H) :
    tDrop (tBM K "list" rAppend (tVar i) (tCons (tE K kd w0.H .val (evE F G x)) tNil)) D σ H := by
  obtain ⟨w, ρ, fl, ρ', bx, rfl, l, k, en, e, q⟩ := q
  simp only [exS] at e
  split at e
  · rename_i ds hd
    split at e
    · rename_i d bx1 e1
      split at e <;> cases e
      rename_i hlen
      obtain ⟨a, o, hs, hz, hb, ho, ⟨vs, rfl, hl, rv⟩, h0⟩ := en.own i _ hk hd
      refine ⟨.ref a, hs, .inl ⟨rfl, vs, SqL.of ho⟩, w, ρ, d, _, rfl, k, en, e1, fun w1 v l1 k1 b1 r1 => ?_⟩
      have ne : w.H a ≠ none := by rw [ho]; exact fun z => nomatch z
      have ho1 := l1.h a _ ho hb
      have hz1 := l1.n a ne hz
      have hb1 := l1.notB ne hb
      refine ⟨a, vs, v, rfl, rfl, ho1, ?_, ?_⟩
      · rw [← rv.length, ← SZ_eq]; exact hlen
      · obtain ⟨l2, k2⟩ := poke (o := .lst (vs ++ [v])) (l.trans l1) k1 h0 hz1 hb1
        refine q _ σ l2 ⟨l1.z, l1.bget⟩ k2 b1 ?_
        exact (en.le l1).poke hk hd hs ⟨vs ++ [v], rfl, by rw [List.length_append, List.length_singleton]; exact hlen, (rv.le l1).append (RepL.one r1)⟩
    · cases e
  · cases e

theorem ix_inj {α : Type} {l : List α} (hN : l.Nodup) {i j : Nat} {x : α} (a : l[i]? = some x) (b : l[j]? = some x) : i = j := by
  obtain ⟨h1, e1⟩ := List.getElem?_eq_some_iff.mp a
  obtain ⟨h2, e2⟩ := List.getElem?_eq_some_iff.mp b
  exact (List.getElem_inj hN).mp (e1.trans e2.symm)
/-- a box is changed -/
theorem pokeBox {w : Wd} {n : Nat} {a : Addr} {d : D} {o : HO} (l : Le w0 w) (k : Ok K w) (hn : w.B[n]? = some a) (c : Cell K w.Z w.B d o) :
    Le w0 ⟨w.Z, upd w.H a o, w.B, w.bx.set n d⟩ ∧ Ok K ⟨w.Z, upd w.H a o, w.B, w.bx.set n d⟩ ∧ ∀ (kd : List Bool) (σ : St) (ρ : Env), EnvOk K kd w0.H w σ ρ → EnvOk K kd w0.H ⟨w.Z, upd w.H a o, w.B, w.bx.set n d⟩ σ ρ := by
  have hmem : a ∈ w.B := List.mem_of_getElem? hn
  refine ⟨⟨l.z, l.b, fun b u e hb => ?_, l.n, fun b hb => ?_⟩, ⟨fun b u e => ?_, ?_, k.nd, fun m d' b h1 h2 => ?_⟩, fun kd σ ρ en => ?_⟩
  · have hne : b ≠ a := fun q => by
      have ne : w0.H b ≠ none := by rw [e]; exact fun z => nomatch z
      exact l.notB ne hb (q ▸ hmem)
    exact (upd_ne hne).trans (l.h b u e hb)
  · show upd w.H a o b ≠ none
    by_cases q : b = a
    · subst q; rw [upd_same]; exact fun z => nomatch z
    · rw [upd_ne q]; exact l.hb b hb
  · have hne : b ≠ a := fun q => by
      have := k.zb a hmem
      rw [← q, e] at this
      cases this
    exact (upd_ne hne).trans (k.sub b u e)
  · show w.B.length = (w.bx.set n d).length
    rw [List.length_set]; exact k.len
  · have h1 : (w.bx.set n d)[m]? = some d' := h1
    by_cases hm : n = m
    · subst hm
      rw [hn] at h2
      cases h2
      have hl : n < w.bx.length := by rw [← k.len]; exact (List.getElem?_eq_some_iff.mp hn).1
      rw [List.getElem?_set_self hl] at h1
      cases h1
      exact ⟨k.zb a hmem, o, upd_same, c⟩
    · rw [List.getElem?_set_ne hm] at h1
      obtain ⟨z, u, hu, cu⟩ := k.box m d' b h1 h2
      have hne : b ≠ a := fun q => by
        rw [q] at h2
        have h2' : w.B[m]? = some a := h2
        exact hm (ix_inj k.nd hn h2')
      exact ⟨z, u, (upd_ne hne).trans hu, cu⟩
  · refine ⟨en.ls, en.lr, en.dat, fun j e h1 h2 => ?_, en.sep⟩
    obtain ⟨b, u, e1, hz, hb, ho, c', h0⟩ := en.own j e h1 h2
    have hne : b ≠ a := fun q => hb (q ▸ hmem)
    exact ⟨b, u, e1, hz, hb, (upd_ne hne).trans ho, c', h0⟩
theorem rd_setB {o i x : E} {D : Ends} {σ : St} {H : Hp} (q : tS K kd w0 rm (exS F G (.setB o i x)) D σ H) :
    tAsg (tE K kd w0.H .val (evE F G x)) (gSub (tE K kd w0.H .brw (evE F G o)) (tE K kd w0.H .brw (evE F G i)) rSetL) D σ H := by
  obtain ⟨w, ρ, fl, ρ', bx, rfl, l, k, en, e, q⟩ := q
  simp only [exS] at e
  split at e
  · cases e
  · rename_i d bx1 e1
    split at e
    · rename_i n bx2 e2
      split at e
      · rename_i kk bx3 e3
        split at e
        · rename_i ds hds
          split at e
          · rename_i j hj
            cases e
            refine ⟨w, ρ, d, bx1, rfl, k, en, e1, fun w1 v l1 k1 b1 r1 => ⟨w1, ρ, .ref n, bx2, rfl, k1, en.le l1, by rw [b1]; exact e2, fun w2 vo l2 k2 b2 r2 => ⟨w2, ρ, .int kk, bx3, rfl, k2, en.le (l1.trans l2), by rw [b2]; exact e3, fun w3 vi l3 k3 b3 r3 => ?_⟩⟩⟩
            obtain ⟨a, rfl, hn⟩ := RepB.ref r2
            have hn3 := l3.bget n a hn
            obtain ⟨_, u, hu, vs, rfl, hl, rv⟩ := k3.box n (.lst ds) a (by rw [b3]; exact hds) hn3
            refine ⟨a, vs, kk, j, rfl, RepB.int r3, hu, by rw [← rv.length]; exact hj, ?_⟩
            have l03 := ((l.trans l1).trans l2).trans l3
            obtain ⟨l4, k4, en4⟩ := pokeBox (o := .lst (vs.set j v)) (d := .lst (ds.set j d)) l03 k3 hn3 ⟨_, rfl, by rw [List.length_set]; exact hl, rv.set j ((Rep.le (l2.trans l3) r1))⟩
            refine q _ σ l4 ⟨((l1.trans l2).trans l3).z, ((l1.trans l2).trans l3).bget⟩ k4 (by show w3.bx.set _ _ = _; rw [b3]) (en4 _ _ _ (en.le ((l1.trans l2).trans l3)))
          · cases e
        · cases e
      · cases e
    · cases e
theorem rd_retO {i : Nat} {D : Ends} {σ : St} {H : Hp} (hk : kd[i]? = some true) (q : tS K kd w0 rm (exS F G (.retO i)) D σ H) : tRet (tVar i) D σ H := by
  obtain ⟨w, ρ, fl, ρ', bx, rfl, l, k, en, e, q⟩ := q
  simp only [exS] at e
  split at e <;> cases e
  rename_i d hd
  obtain ⟨a, o, hs, hz, hb, ho, c, h0⟩ := en.own i _ hk hd
  have r : RepF K w0 w d (.ref a) := .inr ⟨a, o, rfl, h0, hz, hb, ho, c⟩
  refine ⟨.ref a, hs, ?_⟩
  cases rm with
  | frs => exact q w _ l k rfl r
  | brw => exact q w _ l k rfl r.b
  | val =>
    obtain ⟨w', l', k', b', h', r'⟩ := r.freeze l k
    rw [← h']
    exact q w' _ l' k' b' r'

/-! ### several slots at once -/
/-- values for slots, the owned ones (true) that nobody else has -/
def PRep (K : PySem.W.Frag) (w1 w : Wd) : List Bool → List D → List V → Prop
  | [], ds, vs => ds = [] ∧ vs = []
  | m :: ms, ds, vs => ∃ d ds' v vs', ds = d :: ds' ∧ vs = v :: vs' ∧ (if m = true then RepF K w1 w d v ∧ (isImm d = false → ∀ j : Nat, ms[j]? = some true → vs'[j]? ≠ some v) else Rep K w.Z w.B d v) ∧ PRep K w1 w ms ds' vs'
theorem PRep.fresh {w1 w : Wd} {a : Addr} (h : w1.H a ≠ none) : ∀ {ms : List Bool} {ds : List D} {vs : List V}, PRep K w1 w ms ds vs → (∀ (j : Nat) (d : D), ms[j]? = some true → ds[j]? = some d → isImm d = false) → ∀ j : Nat, ms[j]? = some true → vs[j]? ≠ some (V.ref a)
  | [], _, _, _, _, j, hj => by simp at hj
  | m :: ms, _, _, ⟨d, ds', v, vs', rfl, rfl, hm, hr⟩, hi, 0, hj => by
    simp at hj
    subst hj
    rw [if_pos rfl] at hm
    rcases hm.1 with ⟨i, _⟩ | ⟨b, o, rfl, hb, _⟩
    · rw [hi 0 d rfl rfl] at i; cases i
    · intro e
      simp at e
      subst e
      exact h hb
  | m :: ms, _, _, ⟨d, ds', v, vs', rfl, rfl, hm, hr⟩, hi, j + 1, hj => by
    have := PRep.fresh h hr (fun j d h1 h2 => hi (j + 1) d (by simpa using h1) (by simpa using h2)) j (by simpa using hj)
    simpa using this
theorem PRep.pre {w0 w1 w : Wd} (l : Le w0 w1) : ∀ {ms : List Bool} {ds : List D} {vs : List V}, PRep K w1 w ms ds vs → PRep K w0 w ms ds vs
  | [], _, _, h => ⟨h.1, h.2⟩
  | m :: ms, _, _, ⟨d, ds', v, vs', h1, h2, hm, hr⟩ => ⟨d, ds', v, vs', h1, h2, by
      cases m with
      | true => rw [if_pos rfl] at hm ⊢; exact ⟨RepF.pre l hm.1, hm.2⟩
      | false => rw [if_neg Bool.false_ne_true] at hm ⊢; exact hm, PRep.pre l hr⟩
def setAll : List Nat → List V → St → St
  | i :: is, v :: vs, σ => setAll is vs (σ.set i (some v))
  | _, _, σ => σ
/-- the owned ones get lists -/
def ownLst : List (Nat × Bool) → List D → Bool
  | (_, true) :: is, .lst _ :: ds => ownLst is ds
  | (_, true) :: _, _ => false
  | (_, false) :: is, _ :: ds => ownLst is ds
  | _, _ => true
theorem parD_own : ∀ {is : List (Nat × Bool)} {ds : List D} {ρ ρ' : Env}, parD is ds ρ = some ρ' → ∀ (j : Nat) (d : D), (is.map (·.2))[j]? = some true → ds[j]? = some d → isImm d = false
  | [], ds, _, _, _, j, d, h, _ => by simp at h
  | (i, false) :: is, [], _, _, e, _, _, _, _ => by simp [parD] at e
  | (i, true) :: is, [], _, _, e, _, _, _, _ => by simp [parD] at e
  | (i, false) :: is, x :: ds, ρ, ρ', e, 0, d, h, _ => by simp at h
  | (i, false) :: is, x :: ds, ρ, ρ', e, j + 1, d, h1, h2 => by
    simp only [parD] at e
    exact parD_own e j d (by simpa using h1) (by simpa using h2)
  | (i, true) :: is, x :: ds, ρ, ρ', e, j, d, h1, h2 => by
    cases x <;> simp only [parD] at e <;> try (cases e; done)
    cases j with
    | zero => simp at h2; subst h2; rfl
    | succ j => exact parD_own e j d (by simpa using h1) (by simpa using h2)
/-- the slots behind -/
theorem EnvOk.parV {e0 : Hp} {w w1 : Wd} (l : Le w w1) (h0 : ∀ a, w.H a = none → e0 a = none) : ∀ {is : List (Nat × Bool)} {ds : List D} {vs : List V} {σ : St} {ρ ρ' : Env}, EnvOk K kd e0 w1 σ ρ →
    (∀ p ∈ is, kd[p.1]? = some p.2) → PRep K w w1 (is.map (·.2)) ds vs → parD is ds ρ = some ρ' → (is.map (·.1)).Nodup →
    (∀ (j : Nat) (d : D) (b : Addr), kd[j]? = some true → ρ[j]? = some (some d) → σ[j]? = some (some (.ref b)) → w.H b = none → ∀ i : Nat, (is.map (·.2))[i]? = some true → vs[i]? ≠ some (V.ref b)) →
    EnvOk K kd e0 w1 (setAll (is.map (·.1)) vs σ) ρ'
  | [], ds, vs, σ, ρ, ρ', en, _, p, e, _, _ => by
    obtain ⟨rfl, rfl⟩ := p
    simp only [parD] at e
    cases e
    exact en
  | (i, m) :: is, ds, vs, σ, ρ, ρ', en, hk, p, e, nd, sp => by
    obtain ⟨d, ds', v, vs', rfl, rfl, hm, hr⟩ := p
    have hki := hk (i, m) List.mem_cons_self
    have ndt := (List.nodup_cons.mp nd)
    cases m with
    | false =>
      simp only [parD] at e
      rw [if_neg Bool.false_ne_true] at hm
      show EnvOk K kd e0 w1 (setAll (is.map (·.1)) vs' (σ.set i (some v))) ρ'
      refine EnvOk.parV l h0 (en.put hki hm) (fun p hp => hk p (List.mem_cons_of_mem _ hp)) hr e ndt.2 fun j d1 b h1 h2 h3 h4 n hn => ?_
      have hj : i ≠ j := fun q => by rw [q, h1] at hki; cases hki
      rw [List.getElem?_set_ne hj] at h2 h3
      have := sp j d1 b h1 h2 h3 h4 (n + 1) (by simpa using hn)
      simpa using this
    | true =>
      cases d <;> simp only [parD] at e <;> try (cases e; done)
      rename_i xs
      rw [if_pos rfl] at hm
      rcases hm.1 with ⟨z, _⟩ | ⟨a, o, rfl, hw, hz, hb, ho, c⟩
      · cases z
      · have sep : ∀ (j : Nat) (d' : D) (b : Addr), j ≠ i → kd[j]? = some true → ρ[j]? = some (some d') → σ[j]? = some (some (.ref b)) → b ≠ a := fun j d' b hne h1 h2 h3 q => by
          subst q
          exact sp j d' b h1 h2 h3 hw 0 (by simp) (by simp)
        show EnvOk K kd e0 w1 (setAll (is.map (·.1)) vs' (σ.set i (some (.ref a)))) ρ'
        refine EnvOk.parV l h0 (en.putO hki hz hb ho c (h0 a hw) sep) (fun p hp => hk p (List.mem_cons_of_mem _ hp)) hr e ndt.2 fun j d1 b h1 h2 h3 h4 n hn => ?_
        by_cases hj : i = j
        · subst hj
          have hl : i < σ.length := by rw [en.ls]; exact (List.getElem?_eq_some_iff.mp hki).1
          rw [List.getElem?_set_self hl] at h3
          cases h3
          exact hm.2 rfl n hn
        · rw [List.getElem?_set_ne hj] at h2 h3
          have := sp j d1 b h1 h2 h3 h4 (n + 1) (by simpa using hn)
          simpa using this
/-- several values' reading, each in its mode -/
def tAP (K : PySem.W.Frag) (kd : List Bool) (e0 : Hp) (ms : List Bool) (f : Env → Bx → Option (List D × Bx)) (good : List D → Prop) : TA := fun σ H Q => ∃ (w : Wd) (ρ : Env) (ds : List D) (b : Bx), w.H = H ∧ Ok K w ∧ EnvOk K kd e0 w σ ρ ∧ f ρ w.bx = some (ds, b) ∧ good ds ∧
  ∀ (w' : Wd) (vs : List V), Le w w' → Ok K w' → w'.bx = b → PRep K w w' ms ds vs → Q vs w'.H
def ckP (Γ : Gam) : List Bool → E → Scope → List Expr → Bool
  | [], .nil, _, [] => true
  | m :: ms, .cons e es, sc, x :: xs => ck Γ e sc (if m = true then .frs else .val) x && noStar x && ckP Γ ms es sc xs
  | _, _, _, _ => false
theorem sndP {k : Nat} {raw sc : Scope} {X : Cx} {e0 : Hp} (C : Cond Γ F k raw sc X) : ∀ (ms : List Bool) (es : E) (xs : List Expr), ckP Γ ms es sc xs = true →
    PA X xs (tAP X.K Γ.kd e0 ms (evA F Γ.G es) fun ds => ∀ (j : Nat) (d : D), ms[j]? = some true → ds[j]? = some d → isImm d = false)
  | [], es, xs, h => by
    cases es <;> cases xs <;> simp only [ckP] at h <;> try (cases h; done)
    refine PA.imp pa_nil fun σ H Q q => ?_
    obtain ⟨w, ρ, ds, b, rfl, k, en, e, g, q⟩ := q
    simp only [evA] at e
    cases e
    exact q w [] (Le.refl k) k rfl ⟨rfl, rfl⟩
  | m :: ms, es, xs, h => by
    cases es <;> cases xs <;> simp only [ckP] at h <;> try (cases h; done)
    rename_i a as x xs
    simp only [Bool.and_eq_true] at h
    refine PA.imp (pa_cons ((snd (e0 := e0) a).e k raw sc X _ x C h.1.1) (sndP (e0 := e0) C ms as xs h.2) (star_cons h.1.2)) fun σ H Q q => ?_
    obtain ⟨w, ρ, ds, b, rfl, k, en, e, g, q⟩ := q
    simp only [evA] at e
    split at e
    · cases e
    · rename_i d bx1 e1
      split at e
      · cases e
      · rename_i ds' bx2 e2
        cases e
        refine ⟨w, ρ, d, bx1, rfl, k, en, e1, fun w1 v1 l1 k1 b1 r1 => ⟨w1, ρ, ds', _, rfl, k1, en.le l1, by rw [b1]; exact e2, fun j d h1 h2 => g (j + 1) d (by simpa using h1) (by simpa using h2), fun w2 vs l2 k2 b2 r2 => q w2 _ (l1.trans l2) k2 b2 ⟨d, ds', v1, vs, rfl, rfl, ?_, r2.pre l1⟩⟩⟩
        cases m with
        | false =>
          rw [if_neg Bool.false_ne_true] at r1 ⊢
          exact Rep.le l2 r1
        | true =>
          rw [if_pos rfl] at r1 ⊢
          have r1 : RepF _ w w1 d v1 := r1
          refine ⟨RepF.le l2 r1, fun hi j hj => ?_⟩
          rcases r1 with ⟨i, _⟩ | ⟨a', o, rfl, hw, hz, hb, ho, c⟩
          · rw [hi] at i; cases i
          · exact PRep.fresh (by rw [ho]; exact fun z => nomatch z) r2 (fun j d h1 h2 => g (j + 1) d (by simpa using h1) (by simpa using h2)) j hj
theorem PRep.len {w1 w : Wd} : ∀ {ms : List Bool} {ds : List D} {vs : List V}, PRep K w1 w ms ds vs → vs.length = ms.length
  | [], _, _, h => by rw [h.2]; rfl
  | m :: ms, _, _, ⟨d, ds', v, vs', _, rfl, _, hr⟩ => by rw [List.length_cons, List.length_cons, PRep.len hr]
theorem rd_par {is : List (Nat × Bool)} {es : E} {D : Ends} {σ : St} {H : Hp} (hk : ∀ p ∈ is, kd[p.1]? = some p.2) (nd : (is.map (·.1)).Nodup) (q : tS K kd w0 rm (exS F G (.par is es)) D σ H) :
    tAP K kd w0.H (is.map (·.2)) (evA F G es) (fun ds => ∀ (j : Nat) (d : Dk.D), (is.map (·.2))[j]? = some true → ds[j]? = some d → isImm d = false) σ H fun vs H1 => vs.length = is.length ∧ ∃ w1 : Wd, w1.H = H1 ∧ Ok K w1 ∧ ∀ H2 : Hp, (∃ w2 : Wd, w2.H = H2 ∧ Le w1 w2 ∧ Ok K w2 ∧ w2.bx = w1.bx) → D.nx (setAll (is.map (·.1)) vs σ) H2 := by
  obtain ⟨w, ρ, fl, ρ', bx, rfl, l, k, en, e, q⟩ := q
  simp only [exS] at e
  split at e
  · cases e
  · rename_i ds bx1 e1
    split at e <;> cases e
    rename_i e2
    refine ⟨w, ρ, ds, _, rfl, k, en, e1, parD_own e2, fun w1 vs l1 k1 b1 r1 => ⟨?_, w1, rfl, k1, ?_⟩⟩
    · rw [r1.len, List.length_map]
    · rintro H2 ⟨w2, rfl, l2, k2, b2⟩
      have en1 : EnvOk K kd w0.H w1 (setAll (is.map (·.1)) vs σ) ρ' := EnvOk.parV l1 (fun a ha => l.free ha) (en.le l1) hk r1 e2 nd fun j d b h1 h2 h3 h4 => by
        obtain ⟨a', o', e1, _, _, ho', _⟩ := en.own j d h1 h2
        rw [h3] at e1
        cases e1
        rw [h4] at ho'
        cases ho'
      exact q w2 _ ((l.trans l1).trans l2) (l1.trans l2).lz k2 (b2.trans b1) (en1.le l2)
end
end Dk

set_option autoImplicit false
set_option linter.all false
set_option Elab.async false
set_option maxRecDepth 100000
set_option maxHeartbeats 4000000
/-! DkStm3: all statements. Own work. -/
namespace Dk
open PySem PySem.Spec PyProof.Rows L2

/-! ### how the compiler stores -/
def isLoc (sc : Scope) : Expr → Bool
  | .Name x _ => sc.names.lookup x == some .local
  | _ => false
def noSwap (sc : Scope) (ts vs : List Expr) : Bool := vs.all (foldedForSure 8) || !(ts.all (isLoc sc))
theorem filterMap_all {α β : Type} {f : α → Option β} : ∀ {l : List α}, (l.filterMap f).length = l.length → ∀ x ∈ l, (f x).isSome = true
  | [], _, x, h => by cases h
  | a :: l, e, x, h => by
    have hl : (l.filterMap f).length ≤ l.length := List.length_filterMap_le f l
    cases ha : f a with
    | none =>
      rw [List.filterMap_cons_none ha, List.length_cons] at e
      omega
    | some b =>
      rw [List.filterMap_cons_some ha, List.length_cons, List.length_cons] at e
      rcases List.mem_cons.mp h with h | h
      · rw [h, ha]; rfl
      · exact filterMap_all (by omega) x h
theorem noSwap_ok {sc : Scope} {ts vs : List Expr} {k k2 : Nat} {p p2 : Pos} {env : PySem.Env} (he : env.scope = sc) (h : noSwap sc ts vs = true) : swappedStores [.Tuple ts k p] (.Tuple vs k2 p2) env = pure none := by
  unfold swappedStores
  simp only
  split
  · rfl
  · split
    · rfl
    · split
      · rfl
      · rename_i h1 h2 h3
        unfold noSwap at h
        rw [Bool.or_eq_true] at h
        rcases h with h | h
        · rw [if_pos h]
        · exfalso
          apply h3
          rw [Bool.or_eq_true]
          left
          rw [bne_iff_ne]
          intro e
          have hall := filterMap_all e
          rw [Bool.not_eq_true'] at h
          have : ts.all (isLoc sc) = true := List.all_eq_true.mpr fun t ht => by
            have := hall t ht
            cases t <;> simp only [Option.isSome_none] at this <;> try (cases this; done)
            rename_i x px
            split at this
            · rename_i hc
              rw [Bool.and_eq_true] at hc
              show (sc.names.lookup x == some .local) = true
              rw [← he]
              exact hc.1
            · cases this
          rw [this] at h
          cases h
theorem swap2 {sc : Scope} {x y : Str} {px py p p2 : Pos} {a b : Expr} {k k2 : Nat} {env : PySem.Env} (he : env.scope = sc) (hk : sc.kind = .function) (hx : sc.names.lookup x = some .local) (hy : sc.names.lookup y = some .local) (hl : px.line = py.line) (hne : x ≠ y)
    (ha : noStar a = true) (hb : noStar b = true) (hf : [a, b].all (foldedForSure 8) = false) (hc : [a, b].all (constantsAlone 8) = false) :
    swappedStores [.Tuple [.Name x px, .Name y py] k p] (.Tuple [a, b] k2 p2) env = pure (some [x, y]) := by
  have kx : env.kindOf x = some .local := by show env.scope.names.lookup x = _; rw [he]; exact hx
  have ky : env.kindOf y = some .local := by show env.scope.names.lookup y = _; rw [he]; exact hy
  have hb1 : env.blockKind = .function := by unfold Env.blockKind; rw [he, hk]; rfl
  have hns : ([a, b].any fun | .Starred .. => true | _ => false) = false := by
    cases a <;> first | (cases ha; done) | skip
    all_goals (cases b <;> first | (cases hb; done) | rfl)
  unfold swappedStores
  simp only [hb1, hns, hf, hc]
  have e1 : (Expr.Name x px).pos.line = px.line := rfl
  have hxy : (y == x) = false := by simp [Ne.symm hne]
  simp [kx, ky, hl, Expr.pos, List.filterMap_cons, List.eraseDups_cons, hne, Ne.symm hne]
  intro h
  exfalso
  rcases h with h | h
  · cases a <;> first | (cases ha; done) | (cases h; done)
  · cases b <;> first | (cases hb; done) | (cases h; done)
theorem swap3 {sc : Scope} {x y z : Str} {px py pz p p2 : Pos} {a b c : Expr} {k k2 : Nat} {env : PySem.Env} (he : env.scope = sc) (hk : sc.kind = .function) (hx : sc.names.lookup x = some .local) (hy : sc.names.lookup y = some .local) (hz : sc.names.lookup z = some .local) (hl : px.line = py.line) (hl2 : px.line = pz.line) (hne : x ≠ y) (hne2 : x ≠ z) (hne3 : y ≠ z)
    (ha : noStar a = true) (hb : noStar b = true) (hcs : noStar c = true) (hf : [a, b, c].all (foldedForSure 8) = false) (hc : [a, b, c].all (constantsAlone 8) = false) :
    swappedStores [.Tuple [.Name x px, .Name y py, .Name z pz] k p] (.Tuple [a, b, c] k2 p2) env = pure (some [x, y, z]) := by
  have kx : env.kindOf x = some .local := by show env.scope.names.lookup x = _; rw [he]; exact hx
  have ky : env.kindOf y = some .local := by show env.scope.names.lookup y = _; rw [he]; exact hy
  have kz : env.kindOf z = some .local := by show env.scope.names.lookup z = _; rw [he]; exact hz
  have hb1 : env.blockKind = .function := by unfold Env.blockKind; rw [he, hk]; rfl
  have st : ∀ e : Expr, noStar e = true → (match e with | .Starred .. => true | _ => false) = false := fun e h => by cases e <;> first | rfl | cases h
  have hns : ([a, b, c].any fun | .Starred .. => true | _ => false) = false := by
    rw [List.any_cons, List.any_cons, List.any_cons, List.any_nil, st a ha, st b hb, st c hcs]
    rfl
  unfold swappedStores
  simp only [hb1, hns, hf, hc]
  simp [kx, ky, kz, ← hl, ← hl2, Expr.pos, List.filterMap_cons, List.eraseDups_cons, hne, Ne.symm hne, hne2, Ne.symm hne2, hne3, Ne.symm hne3]
  intro h
  exfalso
  rcases h with h | h | h
  · cases a <;> first | (cases ha; done) | (cases h; done)
  · cases b <;> first | (cases hb; done) | (cases h; done)
  · cases c <;> first | (cases hcs; done) | (cases h; done)

/-! ### statements held against terms -/
def ckNames (Γ : Gam) (sc : Scope) : List (Nat × Bool) → List Expr → Bool
  | [], [] => true
  | (i, m) :: is, .Name x _ :: ts => nameAt Γ i x && locB sc x && decide (Γ.kd[i]? = some m) && ckNames Γ sc is ts
  | _, _ => false
def swB (sc : Scope) (t : Str) (tl vl : Nat) (csc : Scope) : Bool := sc.names.lookup t == some .local && tl == vl && !(csc.names.any fun (n, k) => n == t && (k == .local || k == .cell))
/-- a comprehension stored to a name -/
def ckSw (sc : Scope) (x : Str) (px : Pos) : Expr → Bool
  | .ListComp .. => true
  | v => noComp v
def ckNm (Γ : Gam) (sc : Scope) (i : Nat) (m : Bool) (x : Str) : Bool := nameAt Γ i x && locB sc x && decide (Γ.kd[i]? = some m)
def ckSwap (sc : Scope) : List Expr → List Expr → Bool
  | [.Name x px, .Name y py], [a, b] => decide (sc.names.lookup x = some .local) && decide (sc.names.lookup y = some .local) && decide (px.line = py.line) && decide (x ≠ y) && !([a, b].all (foldedForSure 8)) && !([a, b].all (constantsAlone 8)) && noStar a && noStar b
  | [.Name x px, .Name y py, .Name z pz], [a, b, c] => decide (sc.names.lookup x = some .local) && decide (sc.names.lookup y = some .local) && decide (sc.names.lookup z = some .local) && decide (px.line = py.line) && decide (px.line = pz.line) && decide (x ≠ y) && decide (x ≠ z) && decide (y ≠ z) && !([a, b, c].all (foldedForSure 8)) && !([a, b, c].all (constantsAlone 8)) && noStar a && noStar b && noStar c
  | _, _ => false
def ckMd (m : Bool) : Md := if m = true then .frs else .val
mutual
def ckSs (Γ : Gam) (sc : Scope) (rm : Md) : S → List Stmt → Bool
  | .nil, [] => true
  | .seq s ss, st :: sts => ckS Γ sc rm s st && ckSs Γ sc rm ss sts
  | _, _ => false
def ckS (Γ : Gam) (sc : Scope) (rm : Md) : S → Stmt → Bool
  | .asg (.nam i) e, .Assign [.Name x px] v _ => ckNm Γ sc i false x && ck Γ e sc .val v && ckSw sc x px v
  | .asg (.tup ts) e, .Assign [.Tuple es n p] v _ => ckT Γ sc (.tup ts) (.Tuple es n p) && ck Γ e sc .val v && noComp v && noTup v
  | .own i e, .Assign [.Name x px] v _ => ckNm Γ sc i true x && ck Γ e sc .frs v && ckSw sc x px v
  | .box i e, .Assign [.Name x px] v _ => ckNm Γ sc i false x && ck Γ e sc .frs v && ckSw sc x px v
  | .par is es, .Assign [.Tuple ts _ _] (.Tuple vs _ _) _ => ckNames Γ sc is ts && decide ((is.map (·.1)).Nodup) && ckP Γ (is.map (·.2)) es sc vs && ts.all noStar && decide (ts.length ≤ 100) && (noSwap sc ts vs || ckSwap sc ts vs)
  | .app i e, .Expr (.Call (.Attribute (.Name x _) at_ apos) [y] [] cpos) _ => nameAt Γ i x && visB sc x && dbgB x && decide (Γ.kd[i]? = some true) && decide (at_ = "append") && ck Γ e sc .val y && noStar y && decide (apos.endLine = cpos.line)
  | .setB o i e, .Assign [.Subscript a b _] v _ => ck Γ o sc .brw a && ck Γ i sc .brw b && ck Γ e sc .val v && noComp v && noTup v && noSlice b
  | .ite c a b, .If t x y _ => ck Γ c sc .brw t && ckSs Γ sc rm a x && ckSs Γ sc rm b y
  | .for_ t it b, .For tg iter body [] _ => ckT Γ sc t tg && ckI Γ it sc tg iter && noSet iter && ckSs Γ sc rm b body
  | .while_ c b, .While t body [] _ => ck Γ c sc .brw t && ckSs Γ sc rm b body
  | .ret e, .Return (some v) _ => ck Γ e sc rm v
  | .retO i, .Return (some (.Name x _)) _ => nameAt Γ i x && visB sc x && dbgB x && decide (Γ.kd[i]? = some true)
  | .exp e, .Expr v _ => ck Γ e sc .brw v && noComp v
  | .raise, _ => true
  | _, _ => false
end
end Dk

set_option autoImplicit false
set_option linter.all false
set_option Elab.async false
set_option maxRecDepth 100000
set_option maxHeartbeats 4000000
/-! DkStm4: all statements are sound; a def keeps the promise of its evaluation. Own work. -/
namespace Dk
open PySem PySem.Spec PyProof.Rows L2
section
variable {Γ : Gam} {F : Nat → List D → Bx → Option (D × Bx)} {w0 : Wd} {rm : Md}

theorem tE.any_frs {K : PySem.W.Frag} {kd : List Bool} {e0 : Hp} {m : Md} {f : Env → Bx → Option (D × Bx)} {σ : St} {H : Hp} {Q : VK} (h : tE K kd e0 m f σ H Q) : tE K kd e0 .frs f σ H Q := by
  cases m with
  | val => exact tE.frs_val h
  | brw => exact tE.frs_brw h
  | frs => exact h
theorem noComp_sole {t v : Expr} {line : Nat} {env : PySem.Env} (h : noComp v = true) : swapsWithSole [t] v line env = pure false := noComp_sw h
theorem asg_sub {o i : Expr} {pos : Pos} {env : PySem.Env} (h : noSlice i = true) (v : Value) : assign (.Subscript o i pos) env v = (do
      let ov ← holding [v] (eval o env)
      let iv ← holding [v, ov] (eval i env)
      standAt pos
      holding [v, ov, iv] (setItem ov iv v)
      release [v, ov, iv] []) := by
  cases i <;> first | rfl | cases h
theorem swaps_name {sc csc : Scope} {elt : Expr} {gs : List Comprehension} {pos px : Pos} {x : Str} {l : Nat} {env : PySem.Env} (he : env.scope = sc) (hk : sc.kind = .function) :
    swapsWith (.ListComp elt gs csc pos) (some (.Name x px)) l env = pure (swB sc x px.line pos.line csc) := by
  have hb : env.blockKind = .function := by unfold Env.blockKind; rw [he, hk]; rfl
  have kx : env.kindOf x = sc.names.lookup x := by show env.scope.names.lookup x = _; rw [he]
  unfold swapsWith swB
  simp only [hb, kx, Expr.pos]
  rfl
/-- name = e -/
theorem asgN {k : Nat} {sc : Scope} {X : Cx} {e0 : Hp} (C : CondS Γ F k sc X) {i : Nat} {b : Bool} {x : Str} {px pos : Pos} {v : Expr} {e : E} {m : Md} (hn : ckNm Γ sc i b x = true) (he : ck Γ e sc m v = true) (hs : ckSw sc x px v = true) :
    PS X (.Assign [.Name x px] v pos) (fun D σ H => tE X.K Γ.kd e0 m (evE F Γ.G e) σ H fun v H1 => gName i v σ H1 D.nx) := by
  unfold ckNm at hn
  simp only [Bool.and_eq_true, nameAt, decide_eq_true_eq] at hn
  obtain ⟨⟨h1, h2⟩, h3⟩ := hn
  obtain ⟨l1, l2⟩ := C.c.asn x (locB_ok h2)
  have hN : X.N.Nodup := by rw [C.c.N]; exact C.c.nd
  have hi : X.N[i]? = some x := by rw [C.c.N]; exact h1
  have plain : swapsWith v (some (.Name x px)) pos.line X.env = pure false → PS X (.Assign [.Name x px] v pos) (fun D σ H => tE X.K Γ.kd e0 m (evE F Γ.G e) σ H fun v H1 => gName i v σ H1 D.nx) := fun hsw =>
    ps_set hN hi l1 ((snd e).e k sc sc X m v C.c he) hsw l2
  by_cases hc : noComp v = true
  · exact plain (noComp_sw hc)
  · cases v <;> first | (exact absurd rfl hc) | (cases hs; done) | skip
    rename_i elt gens scope p
    cases hsw : swB sc x px.line p.line scope with
    | false =>
      refine plain ?_
      rw [swaps_name C.c.sc C.kind, hsw]
    | true =>
      cases e <;> try (cases (show false = true from he); done)
      rename_i t it c e own
      rcases gens with _ | ⟨⟨tg, iter, ifs, a⟩, _ | ⟨g2, gens⟩⟩ <;> try (simp only [ck] at he; cases he; done)
      simp only [ck, Bool.and_eq_true, decide_eq_true_eq] at he
      obtain ⟨⟨⟨⟨⟨⟨⟨h0, hb1⟩, hb2⟩, hb3⟩, hb4⟩, hb5⟩, hb6⟩, hb7⟩ := he
      subst h0
      have hown : (ownL Γ own).map (·.2) = own := by
        unfold ownL
        rw [List.map_map]
        show own.map (fun i => i) = own
        exact List.map_id _
      have hyl : X.env.scope.names.lookup x = some .local := by
        rw [C.c.sc]
        unfold swB at hsw
        simp only [Bool.and_eq_true, beq_iff_eq] at hsw
        exact hsw.1.1
      have P := ps_setLc (i := i) (y := x) (py := px) (spos := pos) (pos := p) (te := tE X.K Γ.kd e0 .val (evE F Γ.G e)) (tt := tT X.K Γ.kd e0 (evC F Γ.G c)) (g := gD X.K Γ.kd e0 t) C.c.calm hN hi hyl
        (by rw [swaps_name C.c.sc C.kind, hsw]) ((snd (e0 := e0) it).i k sc sc X tg iter C.c hb2) (blkOk_by (own := ownL Γ own) (by rw [C.c.N, C.c.sc]; exact hb1))
        (fun s H A cl fp => (sndT (e0 := e0) (C.c.blk s H scope A cl fp) t).1 tg hb4) (fun s H A cl fp => (snd (e0 := e0) c).c k _ _ _ ifs (C.c.blk s H scope A cl fp) hb6) (fun s H A cl fp => (snd (e0 := e0) e).e k _ _ _ .val elt (C.c.blk s H scope A cl fp) hb7) (set_iter hb3)
      rw [hown] at P
      refine PS.imp P fun D σ H q => ?_
      have q := tE.any_frs q
      refine lc_D (fun i hi => ?_) ?_
      · have := List.all_eq_true.mp hb5 i hi
        simpa using this
      · obtain ⟨w, ρ, d, bx, rfl, k, en, e, q⟩ := q
        simp only [evE] at e
        exact ⟨w, ρ, d, bx, rfl, k, en, e, q⟩

def gNames : List Nat → TGs
  | [] => gNil
  | i :: is => gCons (gName i) (gNames is)
theorem gNames_of : ∀ {is : List Nat} {vs : List V} {σ : St} {H : Hp} {Q : St → Hp → Prop}, vs.length = is.length → Q (setAll is vs σ) H → gNames is vs σ H Q
  | [], [], _, _, _, _, q => ⟨rfl, q⟩
  | [], _ :: _, _, _, _, h, _ => by simp at h
  | _ :: _, [], _, _, _, h, _ => by simp at h
  | i :: is, v :: vs, σ, H, Q, h, q => ⟨v, vs, rfl, gNames_of (by simpa using h) q⟩
theorem names_ok {k : Nat} {sc : Scope} {X : Cx} (C : Cond Γ F k sc sc X) : ∀ {is : List (Nat × Bool)} {ts : List Expr}, ckNames Γ sc is ts = true → PGs X ts (gNames (is.map (·.1))) ∧ (∀ p ∈ is, Γ.kd[p.1]? = some p.2) ∧ ts.length = is.length
  | [], ts, h => by
    cases ts <;> simp only [ckNames] at h <;> try (cases h; done)
    exact ⟨pgs_nil, fun _ h => (by cases h), rfl⟩
  | (i, m) :: is, ts, h => by
    cases ts with
    | nil => simp only [ckNames] at h; cases h
    | cons t ts =>
      cases t <;> try (simp only [ckNames] at h; cases h; done)
      rename_i x px
      simp only [ckNames, Bool.and_eq_true, nameAt, decide_eq_true_eq] at h
      obtain ⟨⟨⟨h1, h2⟩, h3⟩, h4⟩ := h
      obtain ⟨l1, l2⟩ := C.asn x (locB_ok h2)
      obtain ⟨g, kk, le⟩ := names_ok C h4
      refine ⟨pgs_cons (pg_name (i := i) (by rw [C.N]; exact C.nd) (by rw [C.N]; exact h1) l1 l2) g (by rw [asg_cons rfl]; rfl), fun p hp => ?_, by rw [List.length_cons, List.length_cons, le]⟩
      rcases List.mem_cons.mp hp with hp | hp
      · rw [hp]; exact h3
      · exact kk p hp

theorem sndS {k : Nat} {sc : Scope} {X : Cx} (C : CondS Γ F k sc X) : ∀ ir : S, (∀ st, ckS Γ sc rm ir st = true → PS X st (tS X.K Γ.kd w0 rm (exS F Γ.G ir))) ∧ (∀ sts, ckSs Γ sc rm ir sts = true → PSs X sts (tS X.K Γ.kd w0 rm (exS F Γ.G ir))) := by
  have pass : PassesOwn (model X.prog X.w) X.A X.env X.xe := by rw [C.xe]; exact PassesOwn.never
  intro ir
  induction ir with
  | nil =>
    refine ⟨fun st h => (by cases (show false = true from h)), fun sts h => ?_⟩
    cases sts <;> try (cases (show false = true from h); done)
    exact PSs.imp pss_nil fun D σ H q => rd_nil q
  | seq s ss ih1 ih2 =>
    refine ⟨fun st h => (by cases (show false = true from h)), fun sts h => ?_⟩
    cases sts <;> try (cases (show false = true from h); done)
    change (_ && _) = true at h
    rw [Bool.and_eq_true] at h
    exact PSs.imp (pss_cons (ih1.1 _ h.1) (ih2.2 _ h.2)) fun D σ H q => rd_seq q
  | asg t e =>
    refine ⟨fun st h => ?_, fun sts h => by cases sts <;> cases (show false = true from h)⟩
    cases t <;> try (cases (show false = true from h); done)
    · rename_i i
      cases st <;> try (cases (show false = true from h); done)
      rename_i ts v p
      rcases ts with _ | ⟨t, _ | ⟨t2, ts⟩⟩ <;> try (first | (cases (show false = true from h); done) | (cases t <;> cases (show false = true from h); done) | (cases t <;> cases v <;> cases (show false = true from h); done))
      cases t <;> try (cases (show false = true from h); done)
      simp only [ckS, Bool.and_eq_true] at h
      have hk : Γ.kd[i]? = some false := by
        have := h.1.1
        unfold ckNm at this
        simp only [Bool.and_eq_true, decide_eq_true_eq] at this
        exact this.2
      exact PS.imp (asgN C h.1.1 h.1.2 h.2) fun D σ H q => rd_asgN hk q
    · rename_i t
      cases st <;> try (cases (show false = true from h); done)
      rename_i ts v p
      rcases ts with _ | ⟨tg, _ | ⟨t2, ts⟩⟩ <;> try (first | (cases (show false = true from h); done) | (cases tg <;> cases (show false = true from h); done) | (cases tg <;> cases v <;> cases (show false = true from h); done))
      cases tg <;> try (cases (show false = true from h); done)
      simp only [ckS, Bool.and_eq_true] at h
      exact PS.imp (ps_asg ((snd e).e k sc sc X .val v C.c h.1.1.2) ((sndT C.c _).1 _ h.1.1.1) (noComp_sole h.1.2) (noTup_sw h.2) rfl) fun D σ H q => rd_asg q
  | par is es =>
    refine ⟨fun st h => ?_, fun sts h => by cases sts <;> cases (show false = true from h)⟩
    cases st <;> try (cases (show false = true from h); done)
    rename_i ts v p
    rcases ts with _ | ⟨tg, _ | ⟨t2, ts⟩⟩ <;> try (first | (cases (show false = true from h); done) | (cases tg <;> cases (show false = true from h); done) | (cases tg <;> cases v <;> cases (show false = true from h); done))
    cases tg <;> try (cases (show false = true from h); done)
    cases v <;> try (cases (show false = true from h); done)
    rename_i ts n1 p1 vs n2 p2
    simp only [ckS, Bool.and_eq_true, decide_eq_true_eq, Bool.or_eq_true] at h
    obtain ⟨⟨⟨⟨⟨h1, h2⟩, h3⟩, h4⟩, h6⟩, h5⟩ := h
    obtain ⟨g, kk, le⟩ := names_ok C.c h1
    have PA1 := sndP (e0 := w0.H) C.c (is.map (·.2)) es vs h3
    rcases h5 with h5 | h5
    · refine PS.imp (ps_asg (pe_tup (x1 := n2) (pos := p2) PA1) (pg_tup (n := ts.length) (k := n1) (pos := p1) C.c.calm g (asg_len h4) (asg_star h4)) rfl (noSwap_ok C.c.sc h5) rfl) fun D σ H q => ?_
      obtain ⟨w, ρ, ds, b, h6', h7, h8, h9, h10, q⟩ := rd_par kk h2 q
      refine ⟨w, ρ, ds, b, h6', h7, h8, h9, h10, fun w1 vs l1 k1 b1 r1 => ?_⟩
      obtain ⟨hl, w1', hw, k1', qn⟩ := q w1 vs l1 k1 b1 r1
      have hlen : vs.length ≤ sizeLine := by
        rw [sizeLine_eq, hl, ← le]
        omega
      refine ⟨hlen, fun p hp => ?_⟩
      rw [← hw] at hp
      obtain ⟨l2, k2⟩ := newFix k1' (o := .tup vs) hp
      refine ⟨p, vs, rfl, SqT.of upd_same, by rw [hl, le], gNames_of (by rw [hl, List.length_map]) ?_⟩
      rw [← hw]
      exact qn _ ⟨_, rfl, l2, k2, rfl⟩
    · have rd : ∀ D σ H, tS X.K Γ.kd w0 rm (exS F Γ.G (.par is es)) D σ H → tAP X.K Γ.kd w0.H (is.map (·.2)) (evA F Γ.G es) (fun ds => ∀ (j : Nat) (d : Dk.D), (is.map (·.2))[j]? = some true → ds[j]? = some d → isImm d = false) σ H fun vs H1 => vs.length = is.length ∧ D.nx (setAll (is.map (·.1)) vs σ) H1 := fun D σ H q => by
        obtain ⟨w, ρ, ds, b, h6', h7, h8, h9, h10, q⟩ := rd_par kk h2 q
        refine ⟨w, ρ, ds, b, h6', h7, h8, h9, h10, fun w1 vs l1 k1 b1 r1 => ?_⟩
        obtain ⟨hl, w1', hw, k1', qn⟩ := q w1 vs l1 k1 b1 r1
        exact ⟨hl, qn _ ⟨w1', hw, Le.refl k1', k1', rfl⟩⟩
      have at2 : ∀ {i : Nat} {m : Bool} {x : Str} {px : Pos} {is' : List (Nat × Bool)} {ts' : List Expr}, ckNames Γ sc ((i, m) :: is') (.Name x px :: ts') = true → Γ.N[i]? = some x ∧ ckNames Γ sc is' ts' = true := fun {i m x px is' ts'} h => by
        simp only [ckNames, Bool.and_eq_true, nameAt, decide_eq_true_eq] at h
        exact ⟨h.1.1.1, h.2⟩
      have hN : X.N.Nodup := by rw [C.c.N]; exact C.c.nd
      unfold ckSwap at h5
      split at h5
      · rename_i x px y py a b
        simp only [Bool.and_eq_true, decide_eq_true_eq, Bool.not_eq_true'] at h5
        obtain ⟨⟨⟨⟨⟨⟨⟨g1, g2⟩, g3⟩, g4⟩, g5⟩, g6⟩, g7⟩, g8⟩ := h5
        rcases is with _ | ⟨⟨i, mi⟩, _ | ⟨⟨j, mj⟩, _ | ⟨ijk, is⟩⟩⟩ <;> try (cases le; done)
        obtain ⟨n1', r1⟩ := at2 h1
        obtain ⟨n2', r2⟩ := at2 r1
        have hij : i ≠ j := fun q => by subst q; rw [n1'] at n2'; cases n2'; exact g4 rfl
        have P := ps_par (pos := p) C.c.calm hN (by rw [C.c.N]; exact n1') (by rw [C.c.N]; exact n2') hij (by rw [C.c.sc]; exact g1) (by rw [C.c.sc]; exact g2) PA1 (swap2 (p := p1) (p2 := p2) (k := n1) (k2 := n2) C.c.sc C.kind g1 g2 g3 g4 g7 g8 g5 g6) rfl
        refine PS.imp P fun D σ H q => ?_
        obtain ⟨w, ρ, ds, b, h6', h7, h8, h9, h10, q⟩ := rd D σ H q
        refine ⟨w, ρ, ds, b, h6', h7, h8, h9, h10, fun w1 vs l1 k1 b1 r1 => ?_⟩
        obtain ⟨hl, qn⟩ := q w1 vs l1 k1 b1 r1
        rcases vs with _ | ⟨v1, _ | ⟨v2, _ | ⟨v3, vs⟩⟩⟩ <;> try (cases hl; done)
        exact ⟨v1, v2, rfl, qn⟩
      · rename_i x px y py z pz a b c
        simp only [Bool.and_eq_true, decide_eq_true_eq, Bool.not_eq_true'] at h5
        obtain ⟨⟨⟨⟨⟨⟨⟨⟨⟨⟨⟨⟨g1, g2⟩, g3⟩, g4⟩, g5⟩, g6⟩, g7⟩, g8⟩, g9⟩, g10⟩, g11⟩, g12⟩, g13⟩ := h5
        rcases is with _ | ⟨⟨i, mi⟩, _ | ⟨⟨j, mj⟩, _ | ⟨⟨l, ml⟩, _ | ⟨ijk, is⟩⟩⟩⟩ <;> try (cases le; done)
        obtain ⟨n1', r1⟩ := at2 h1
        obtain ⟨n2', r2⟩ := at2 r1
        obtain ⟨n3', r3⟩ := at2 r2
        have hij : i ≠ j := fun q => by subst q; rw [n1'] at n2'; cases n2'; exact g6 rfl
        have hil : i ≠ l := fun q => by subst q; rw [n1'] at n3'; cases n3'; exact g7 rfl
        have hjl : j ≠ l := fun q => by subst q; rw [n2'] at n3'; cases n3'; exact g8 rfl
        have P := ps_par3 (pos := p) C.c.calm hN (by rw [C.c.N]; exact n1') (by rw [C.c.N]; exact n2') (by rw [C.c.N]; exact n3') hij hil hjl (by rw [C.c.sc]; exact g1) (by rw [C.c.sc]; exact g2) (by rw [C.c.sc]; exact g3) PA1 (swap3 (p := p1) (p2 := p2) (k := n1) (k2 := n2) C.c.sc C.kind g1 g2 g3 g4 g5 g6 g7 g8 g11 g12 g13 g9 g10) rfl
        refine PS.imp P fun D σ H q => ?_
        obtain ⟨w, ρ, ds, b, h6', h7, h8, h9, h10, q⟩ := rd D σ H q
        refine ⟨w, ρ, ds, b, h6', h7, h8, h9, h10, fun w1 vs l1 k1 b1 r1 => ?_⟩
        obtain ⟨hl, qn⟩ := q w1 vs l1 k1 b1 r1
        rcases vs with _ | ⟨v1, _ | ⟨v2, _ | ⟨v3, _ | ⟨v4, vs⟩⟩⟩⟩ <;> try (cases hl; done)
        exact ⟨v1, v2, v3, rfl, qn⟩
      · cases h5
  | own i e =>
    refine ⟨fun st h => ?_, fun sts h => by cases sts <;> cases (show false = true from h)⟩
    cases st <;> try (cases (show false = true from h); done)
    rename_i ts v p
    rcases ts with _ | ⟨t, _ | ⟨t2, ts⟩⟩ <;> try (first | (cases (show false = true from h); done) | (cases t <;> cases (show false = true from h); done) | (cases t <;> cases v <;> cases (show false = true from h); done))
    cases t <;> try (cases (show false = true from h); done)
    simp only [ckS, Bool.and_eq_true] at h
    have hk : Γ.kd[i]? = some true := by
      have := h.1.1
      unfold ckNm at this
      simp only [Bool.and_eq_true, decide_eq_true_eq] at this
      exact this.2
    exact PS.imp (asgN C h.1.1 h.1.2 h.2) fun D σ H q => rd_own hk q
  | box i e =>
    refine ⟨fun st h => ?_, fun sts h => by cases sts <;> cases (show false = true from h)⟩
    cases st <;> try (cases (show false = true from h); done)
    rename_i ts v p
    rcases ts with _ | ⟨t, _ | ⟨t2, ts⟩⟩ <;> try (first | (cases (show false = true from h); done) | (cases t <;> cases (show false = true from h); done) | (cases t <;> cases v <;> cases (show false = true from h); done))
    cases t <;> try (cases (show false = true from h); done)
    simp only [ckS, Bool.and_eq_true] at h
    have hk : Γ.kd[i]? = some false := by
      have := h.1.1
      unfold ckNm at this
      simp only [Bool.and_eq_true, decide_eq_true_eq] at this
      exact this.2
    exact PS.imp (asgN C h.1.1 h.1.2 h.2) fun D σ H q => rd_box hk q
  | app i e =>
    refine ⟨fun st h => ?_, fun sts h => by cases sts <;> cases (show false = true from h)⟩
    cases st <;> try (cases (show false = true from h); done)
    rename_i v p
    cases v <;> try (cases (show false = true from h); done)
    rename_i fn xs kws cp
    cases fn <;> try (cases (show false = true from h); done)
    rename_i o at_ ap
    cases o <;> try (cases (show false = true from h); done)
    rename_i x px
    rcases xs with _ | ⟨y, _ | ⟨y2, xs⟩⟩ <;> rcases kws with _ | ⟨kw, kws⟩ <;> try (cases (show false = true from h); done)
    simp only [ckS, Bool.and_eq_true, decide_eq_true_eq, nameAt, dbgB, Bool.not_eq_true'] at h
    obtain ⟨⟨⟨⟨⟨⟨⟨h1, h2⟩, h3, h3'⟩, h4⟩, h5⟩, h6⟩, h7⟩, h8⟩ := h
    subst h5
    have hv : Vis X.env.scope x := by rw [C.c.sc]; exact visB_ok h2
    have hst : starEach [y] X.env = (false, eval y X.env) :: starEach [] X.env := star_cons h7
    have P := pe_bm (cpos := cp) (apos := ap) PySem.F.plainAttrs_list PySem.F.slot_list_append PySem.F.type_list_append mt_append (pe_var (i := i) (pos := px) (by rw [C.c.N]; exact h1) hv h3 h3') (pa_cons ((snd (e0 := w0.H) e).e k sc sc X .val y C.c h6) pa_nil hst)
      rfl (by rw [hst]; rfl) (by simp [h8]) hst rfl
    exact PS.imp (ps_expr P rfl) fun D σ H q => rd_app h4 q
  | setB o i e =>
    refine ⟨fun st h => ?_, fun sts h => by cases sts <;> cases (show false = true from h)⟩
    cases st <;> try (cases (show false = true from h); done)
    rename_i ts v p
    rcases ts with _ | ⟨t, _ | ⟨t2, ts⟩⟩ <;> try (first | (cases (show false = true from h); done) | (cases t <;> cases (show false = true from h); done) | (cases t <;> cases v <;> cases (show false = true from h); done))
    cases t <;> try (cases (show false = true from h); done)
    simp only [ckS, Bool.and_eq_true] at h
    obtain ⟨⟨⟨⟨⟨h1, h2⟩, h3⟩, h4⟩, h5⟩, h6⟩ := h
    exact PS.imp (ps_asg ((snd (e0 := w0.H) e).e k sc sc X .val v C.c h3) (pg_sub ((snd (e0 := w0.H) o).e k sc sc X .brw _ C.c h1) ((snd (e0 := w0.H) i).e k sc sc X .brw _ C.c h2) set_list (asg_sub h6)) (noComp_sole h4) (noTup_sw h5) rfl) fun D σ H q => rd_setB q
  | ite c a b iha ihb =>
    refine ⟨fun st h => ?_, fun sts h => by cases sts <;> cases (show false = true from h)⟩
    cases st <;> try (cases (show false = true from h); done)
    change (_ && _ && _) = true at h
    simp only [Bool.and_eq_true] at h
    exact PS.imp (ps_if ((snd (e0 := w0.H) c).t k sc sc X .brw _ C.c h.1.1).1 (iha.2 _ h.1.2) (ihb.2 _ h.2)) fun D σ H q => rd_if q
  | for_ t it b ih =>
    refine ⟨fun st h => ?_, fun sts h => by cases sts <;> cases (show false = true from h)⟩
    cases st <;> try (cases (show false = true from h); done)
    rename_i tg iter body orelse p
    cases orelse <;> try (cases (show false = true from h); done)
    simp only [ckS, Bool.and_eq_true] at h
    exact PS.imp (ps_for pass C.c.calm ((snd (e0 := w0.H) it).i k sc sc X tg iter C.c h.1.1.2) ((sndT C.c t).1 tg h.1.1.1) (ih.2 _ h.2) (set_iter h.1.2)) fun D σ H q => rd_for q
  | while_ c b ih =>
    refine ⟨fun st h => ?_, fun sts h => by cases sts <;> cases (show false = true from h)⟩
    cases st <;> try (cases (show false = true from h); done)
    rename_i t body orelse p
    cases orelse <;> try (cases (show false = true from h); done)
    simp only [ckS, Bool.and_eq_true] at h
    exact PS.imp (ps_while pass ((snd (e0 := w0.H) c).t k sc sc X .brw _ C.c h.1).1 (ih.2 _ h.2)) fun D σ H q => rd_while q
  | ret e =>
    refine ⟨fun st h => ?_, fun sts h => by cases sts <;> cases (show false = true from h)⟩
    cases st <;> try (cases (show false = true from h); done)
    rename_i v p
    cases v <;> try (cases (show false = true from h); done)
    exact PS.imp (ps_ret ((snd (e0 := w0.H) e).e k sc sc X rm _ C.c h)) fun D σ H q => rd_ret q
  | retO i =>
    refine ⟨fun st h => ?_, fun sts h => by cases sts <;> cases (show false = true from h)⟩
    cases st <;> try (cases (show false = true from h); done)
    rename_i v p
    cases v <;> try (cases (show false = true from h); done)
    rename_i v
    cases v <;> try (cases (show false = true from h); done)
    simp only [ckS, Bool.and_eq_true, decide_eq_true_eq, nameAt, dbgB, Bool.not_eq_true'] at h
    obtain ⟨⟨⟨h1, h2⟩, h3, h3'⟩, h4⟩ := h
    exact PS.imp (ps_ret (pe_var (i := i) (by rw [C.c.N]; exact h1) (by rw [C.c.sc]; exact visB_ok h2) h3 h3')) fun D σ H q => rd_retO h4 q
  | exp e =>
    refine ⟨fun st h => ?_, fun sts h => by cases sts <;> cases (show false = true from h)⟩
    cases st <;> try (cases (show false = true from h); done)
    simp only [ckS, Bool.and_eq_true] at h
    exact PS.imp (ps_expr ((snd (e0 := w0.H) e).e k sc sc X .brw _ C.c h.1) (noComp_sw h.2)) fun D σ H q => rd_exp q
  | raise =>
    refine ⟨fun st h => ?_, fun sts h => by cases sts <;> cases (show false = true from h)⟩
    refine PS.imp ps_never fun D σ H q => ?_
    obtain ⟨w, ρ, fl, ρ', bx, rfl, l, k, en, e, q⟩ := q
    simp only [exS] at e
    cases e
end
end Dk

set_option autoImplicit false
set_option linter.all false
set_option Elab.async false
set_option maxRecDepth 100000
set_option maxHeartbeats 4000000
/-! DkDef: a module's defs keep the promises of their evaluation. Own work. -/
namespace Dk
open PySem PySem.Spec PyProof.Rows L2

structure DefT where
  x : Str
  N : List Str
  P : List Str
  kd : List Bool
  fr : Bool
  b : S
  st : Stmt
def defsOf (ts : List DefT) : List Def := ts.map fun t => ⟨t.P.length, t.N.length, t.b⟩
def gamOf (ts : List DefT) (gls : List Str) (G : Nat → Option D) (t : DefT) : Gam := ⟨t.N, t.kd, gls, G, ts.map fun t => (t.x, t.P.length), fun f => match ts[f]? with
  | some t => t.fr
  | none => false⟩
def rmOf (fr : Bool) : Md := if fr = true then .frs else .val
structure ModOk (K : PySem.W.Frag) (mg : Str → Option Value) (ts : List DefT) (gls : List Str) (G : Nat → Option D) : Prop where
  blt : ∀ x ∈ bltNames, mg x = none
  glo : ∀ (g : Nat) (x : Str) (d : D), gls[g]? = some x → G g = some d → isScal d = true ∧ ∃ u v, mg x = some u ∧ RelV v u ∧ ∀ (Z : Hp) (B : List Addr), Rep K Z B d v
  fns : ∀ (f : Nat) (t : DefT), ts[f]? = some t → ∃ (fa : Addr) (fd : FuncData), FunD K t.x t.x (defArgs t.st) (defBody t.st) (defScope t.st) [] [] fa fd ∧ mg t.x = some (.ref fa) ∧ Binds K fd t.P []
/-- a def's text held against its terms -/
def ckDef (ts : List DefT) (gls : List Str) (G : Nat → Option D) (t : DefT) : Bool :=
  C8.scC t.N t.P (defScope t.st) && decide (t.kd.length = t.N.length) && decide (t.kd.take t.P.length = List.replicate t.P.length false) && decide (t.P.length ≤ t.N.length) && ckSs (gamOf ts gls G t) (defScope t.st) (rmOf t.fr) t.b (defBody t.st)

theorem start_ok {K : PySem.W.Frag} {w : Wd} {ds : List D} {vs : List V} {N : List Str} {kd : List Bool} {p : Nat} (hk : kd.length = N.length) (hp : kd.take p = List.replicate p false) (hpn : p ≤ N.length) (hl : vs.length = p) (r : RepL K w.Z w.B ds vs) :
    EnvOk K kd w.H w (L2.start N vs) (ds.map some ++ List.replicate (N.length - p) none) := by
  have hd : ds.length = p := by rw [r.length, hl]
  have low : ∀ i d, (ds.map some ++ List.replicate (N.length - p) none)[i]? = some (some d) → i < p ∧ ds[i]? = some d := fun i d e => by
    by_cases h : i < p
    · refine ⟨h, ?_⟩
      rw [List.getElem?_append_left (by rw [List.length_map, hd]; exact h), List.getElem?_map] at e
      cases q : ds[i]? with
      | none => rw [q] at e; cases e
      | some z => rw [q] at e; cases e; rfl
    · exfalso
      rw [List.getElem?_append_right (by rw [List.length_map, hd]; omega), List.getElem?_replicate] at e
      split at e <;> cases e
  have fl : ∀ i, i < p → kd[i]? = some false := fun i h => by
    have : (kd.take p)[i]? = some false := by rw [hp, List.getElem?_replicate, if_pos h]
    rwa [List.getElem?_take_of_lt h] at this
  refine ⟨?_, ?_, fun i d _ e => ?_, fun i d k e => ?_, fun i j d d' a k _ e => ?_⟩
  · unfold L2.start
    rw [List.length_append, List.length_map, List.length_replicate, hl, hk]
    omega
  · rw [List.length_append, List.length_map, List.length_replicate, hd, hk]
    omega
  · obtain ⟨h, e⟩ := low i d e
    obtain ⟨v, hv, rv⟩ := r.get e
    refine ⟨v, ?_, rv⟩
    unfold L2.start
    rw [List.getElem?_append_left (by rw [List.length_map, hl]; exact h), List.getElem?_map, hv]
    rfl
  · obtain ⟨h, _⟩ := low i d e
    rw [fl i h] at k
    cases k
  · obtain ⟨h, _⟩ := low i d e
    rw [fl i h] at k
    cases k

section
variable {P : Program} {w : World} {K : PySem.W.Frag} {mg : Str → Option Value} {base : Heap} {ts : List DefT} {gls : List Str} {G : Nat → Option D}
theorem spD_len {m : Md} {F : List D → Bx → Option (D × Bx)} {n : Nat} : ∀ vs H Q E, spD K m F n vs H Q E → vs.length = n := fun _ _ _ _ h => h.1
theorem def_ok (M : ModOk K mg ts gls G) (C : ts.all (ckDef ts gls G) = true) : ∀ (n f : Nat) (t : DefT), ts[f]? = some t → ∃ (fa : Addr) (fd : FuncData), FnG P w K mg base n fa fd t.P (spD K (rmOf t.fr) (runD (defsOf ts) G n f) t.P.length) ∧ mg t.x = some (.ref fa) ∧ FunD K t.x t.x (defArgs t.st) (defBody t.st) (defScope t.st) [] [] fa fd ∧ Binds K fd t.P [] := by
  intro n
  induction n with
  | zero =>
    intro f t ht
    obtain ⟨fa, fd, F, hm, b⟩ := M.fns f t ht
    refine ⟨fa, fd, ⟨spD_len, fun A outer s H args us vs Q E _ _ _ _ h => ?_⟩, hm, F, b⟩
    obtain ⟨_, w, ds, d, bx, _, _, _, e, _⟩ := h
    cases e
  | succ n ih =>
    intro f t ht
    obtain ⟨fa, fd, F, hm, b⟩ := M.fns f t ht
    refine ⟨fa, fd, ?_, hm, F, b⟩
    have c := List.all_eq_true.mp C t (List.mem_of_getElem? ht)
    unfold ckDef at c
    simp only [Bool.and_eq_true, decide_eq_true_eq] at c
    obtain ⟨⟨⟨⟨c1, c2⟩, c3⟩, c4⟩, c5⟩ := c
    have S := C8.fnScope_by c1
    refine FnG.of F S spD_len fun cdv A outer s H vs Q E hr gd h => ?_
    obtain ⟨hl, w0, ds, d, bx, rfl, k0, r, e, q⟩ := h
    have cond : CondS (gamOf ts gls G t) (runD (defsOf ts) G n) n (defScope t.st) (cxOf CX0 P w K mg base t.N t.x (defScope t.st) fa cdv A outer s w0.H E).nox := by
      refine ⟨⟨rfl, S.nd, rfl, rfl, hr, gd, M.blt, M.glo, fun g x m hg => ?_, fun x hx => ⟨hx, .inl rfl⟩⟩, S.kind, rfl⟩
      have hg : (ts.map fun t => (t.x, t.P.length))[g]? = some (x, m) := hg
      rw [List.getElem?_map] at hg
      cases hq : ts[g]? with
      | none => rw [hq] at hg; cases hg
      | some u =>
        rw [hq] at hg
        cases hg
        obtain ⟨ga, gd, h1, h2, h3, h4⟩ := ih g u hq
        refine ⟨ga, gd, u.P, rfl, h2, h3.kp, ?_, h4⟩
        have : (gamOf ts gls G t).fr g = u.fr := by
          show (match ts[g]? with | some t => t.fr | none => false) = u.fr
          rw [hq]
        rw [this]
        exact h1
    refine ⟨_, ((sndS (w0 := w0) (rm := rmOf t.fr) cond t.b).2 _ c5).nox, ?_⟩
    have en := start_ok (K := K) (w := w0) c2 c3 c4 hl r
    have ed : (defsOf ts)[f]? = some ⟨t.P.length, t.N.length, t.b⟩ := by
      unfold defsOf
      rw [List.getElem?_map, ht]
      rfl
    unfold runD at e
    rw [ed] at e
    have hdl : ds.length = t.P.length := by rw [r.length, hl]
    simp only [hdl, if_true] at e
    unfold fin at e
    split at e
    · rename_i rr ρ1 bx1 ex
      cases e
      exact ⟨w0, _, _, _, _, rfl, Le.refl k0, k0, en, ex, fun w' v l k' b' rv => q w' v l k' b' rv⟩
    · rename_i ρ1 bx1 ex
      cases e
      refine ⟨w0, _, _, _, _, rfl, Le.refl k0, k0, en, ex, fun w' σ' l z k' b' en' => q w' _ l k' b' ?_⟩
      cases t.fr with
      | false => exact rfl
      | true => exact .inl ⟨rfl, rfl⟩
    · cases e
end

theorem _root_.L2.FunD.uniq {K : PySem.W.Frag} {x q x' q' : Str} {pa pa' : Arguments} {b b' : List Stmt} {sc sc' : Scope} {dv dv' : List V} {kw kw' : List (Str × V)} {f : Addr} {fd fd' : FuncData} (F : FunD K x q pa b sc dv kw f fd) (G : FunD K x' q' pa' b' sc' dv' kw' f fd') : fd = fd' := by
  obtain ⟨_, _, _, _, _, _, _, _, _, _, _, e, _⟩ := F.ex
  obtain ⟨_, _, _, _, _, _, _, _, _, _, _, e', _⟩ := G.ex
  rw [e] at e'
  cases e'
  rfl
/-- the law's promise: the script's numbers give True -/
theorem law_spD {K : PySem.W.Frag} {F : List D → Bx → Option (D × Bx)} {c : Nat} (hc : c ≤ SZ) (hF : ∀ ns : List Int, ns.length ≤ c → ∃ bx, F [.scr (ns.map D.int)] [] = some (.bl true, bx)) (H : Hp) (a : Addr) (ns : List Int) (hl : ns.length ≤ c) (hS : SqL K H a (ns.map V.int)) (E : XK) :
    spD K .val F 1 [.ref a] H (fun v _ => v = .bl true) E := by
  obtain ⟨bx, e⟩ := hF ns hl
  have rl : ∀ ns : List Int, RepL K H [] (ns.map D.int) (ns.map V.int) := fun ns => by
    induction ns with
    | nil => exact rfl
    | cons n ns ih => exact ⟨_, _, rfl, rfl, ih⟩
  refine ⟨rfl, ⟨H, H, [], []⟩, [.scr (ns.map D.int)], _, _, rfl, ⟨Same.refl _, rfl, List.nodup_nil, fun n d a h => by simp at h⟩, RepL.one ⟨a, _, rfl, ?_, hS, rl ns⟩, e, fun w' v _ _ _ r => r⟩
  rw [List.length_map]
  omega
/-- what a number among the module's names gives -/
theorem glo_int {K : PySem.W.Frag} {mg : Str → Option Value} {x : Str} {i : Int} (h : ∃ t, mg x = some (.int i t)) : ∃ u v, mg x = some u ∧ RelV v u ∧ ∀ (Z : Hp) (B : List Addr), Rep K Z B (.int i) v := by
  obtain ⟨t, h⟩ := h
  exact ⟨_, .int i, h, ⟨t, rfl⟩, fun _ _ => rfl⟩
theorem glo_str {K : PySem.W.Frag} {mg : Str → Option Value} {x z : Str} (h : ∃ t, mg x = some (.str z t)) : ∃ u v, mg x = some u ∧ RelV v u ∧ ∀ (Z : Hp) (B : List Addr), Rep K Z B (.str z) v := by
  obtain ⟨t, h⟩ := h
  exact ⟨_, .str z, h, ⟨t, rfl⟩, fun _ _ => rfl⟩
end Dk

set_option autoImplicit false
set_option linter.all false
namespace Dk.K49
open PySem Dk
/-- is_whole(value, low, high): 0 value 1 low 2 high -/
def b_is_whole : S := (.seq (.ret (.and (.isi (.var 0) .int) (.and (.not (.isi (.var 0) .bool)) (.chain .le .le (.var 1) (.var 0) (.var 2))))) .nil)
/-- is_tuple_of(value, low, high): 0 value 1 low 2 high -/
def b_is_tuple_of : S := (.seq (.ret (.and (.isi (.var 0) .tuple) (.chain .le .le (.var 1) (.blt .len (.cons (.var 0) .nil)) (.var 2)))) .nil)
/-- fits_content(value): 0 value 1 one -/
def b_fits_content : S := (.seq (.ret (.and (.call 1 (.cons (.var 0) (.cons (.con (.int 0)) (.cons (.glo 0) .nil)))) (.blt .all (.cons (.comp (.nam 1) (.ival (.var 0)) .nil (.call 0 (.cons (.var 1) (.cons (.con (.int 0)) (.cons (.con (.int 255)) .nil)))) [1]) .nil)))) .nil)
/-- fits_contents(value): 0 value 1 one -/
def b_fits_contents : S := (.seq (.ret (.and (.call 1 (.cons (.var 0) (.cons (.con (.int 1)) (.cons (.glo 1) .nil)))) (.blt .all (.cons (.comp (.nam 1) (.ival (.var 0)) .nil (.call 2 (.cons (.var 1) .nil)) [1]) .nil)))) .nil)
/-- fits_slot(value): 0 value -/
def b_fits_slot : S := (.seq (.ret (.and (.call 1 (.cons (.var 0) (.cons (.con (.int 2)) (.cons (.con (.int 2)) .nil)))) (.and (.call 0 (.cons (.idx (.var 0) (.con (.int 0))) (.cons (.con (.int 0)) (.cons (.bin .sub (.glo 1) (.con (.int 1))) .nil)))) (.call 2 (.cons (.idx (.var 0) (.con (.int 1))) .nil))))) .nil)
/-- fits_mark(log, value): 0 log 1 value -/
def b_fits_mark : S := (.seq (.ret (.or (.cmp .is_ (.var 1) (.con .non)) (.call 0 (.cons (.var 1) (.cons (.con (.int 1)) (.cons (.blt .len (.cons (.var 0) .nil)) .nil)))))) .nil)
/-- fits_disk(value): 0 value 1 one -/
def b_fits_disk : S := (.seq (.ite (.or (.not (.call 1 (.cons (.var 0) (.cons (.con (.int 3)) (.cons (.con (.int 3)) .nil))))) (.not (.call 1 (.cons (.idx (.var 0) (.con (.int 1))) (.cons (.con (.int 0)) (.cons (.glo 2) .nil)))))) (.seq (.ret (.con (.bl false))) .nil) .nil) (.seq (.ite (.not (.blt .all (.cons (.comp (.nam 1) (.ival (.idx (.var 0) (.con (.int 1)))) .nil (.call 4 (.cons (.var 1) .nil)) [1]) .nil))) (.seq (.ret (.con (.bl false))) .nil) .nil) (.seq (.ret (.and (.call 5 (.cons (.idx (.var 0) (.con (.int 1))) (.cons (.idx (.var 0) (.con (.int 0))) .nil))) (.call 3 (.cons (.idx (.var 0) (.con (.int 2))) .nil)))) .nil)))
/-- with_item(items, at, item): 0 items 1 at 2 item -/
def b_with_item : S := (.seq (.ret (.bin .add (.bin .add (.slc (.var 0) .nil (.cons (.var 1) .nil)) (.tup (.cons (.var 2) .nil))) (.slc (.var 0) (.cons (.bin .add (.var 1) (.con (.int 1))) .nil) .nil))) .nil)
/-- written_to(disk, write): 0 disk 1 write 2 mark 3 log 4 blocks -/
def b_written_to : S := (.seq (.asg (.tup (.cons (.nam 2) (.cons (.nam 3) (.cons (.nam 4) .nil)))) (.var 0)) (.seq (.ite (.cmp .eq (.idx (.var 1) (.con (.int 0))) (.con (.str "mark"))) (.seq (.ret (.tup (.cons (.idx (.var 1) (.con (.int 1))) (.cons (.var 3) (.cons (.var 4) .nil))))) .nil) .nil) (.seq (.ite (.cmp .eq (.idx (.var 1) (.con (.int 0))) (.con (.str "log"))) (.seq (.ret (.tup (.cons (.var 2) (.cons (.call 7 (.cons (.var 3) (.cons (.idx (.var 1) (.con (.int 1))) (.cons (.slc (.var 1) (.cons (.con (.int 2)) .nil) .nil) .nil)))) (.cons (.var 4) .nil))))) .nil) .nil) (.seq (.ret (.tup (.cons (.var 2) (.cons (.var 3) (.cons (.call 7 (.cons (.bin .add (.var 4) (.bin .mul (.tup (.cons (.tup .nil) .nil)) (.bin .sub (.idx (.var 1) (.con (.int 1))) (.blt .len (.cons (.var 4) .nil))))) (.cons (.idx (.var 1) (.con (.int 1))) (.cons (.idx (.var 1) (.con (.int 2))) .nil)))) .nil))))) .nil))))
/-- all_written(disk, writes): 0 disk 1 writes 2 write -/
def b_all_written_l1 : S := (.seq (.asg (.nam 0) (.call 8 (.cons (.var 0) (.cons (.var 2) .nil)))) .nil)
def b_all_written : S := (.seq (.for_ (.nam 2) (.ival (.var 1)) b_all_written_l1) (.seq (.ret (.var 0)) .nil))
/-- content_at(blocks, number): 0 blocks 1 number -/
def b_content_at : S := (.seq (.ret (.ite (.cmp .lt (.var 1) (.blt .len (.cons (.var 0) .nil))) (.idx (.var 0) (.var 1)) (.tup .nil))) .nil)
/-- turned_in(old, new): 0 old 1 new 2 numbers 3 at -/
def b_turned_in : S := (.seq (.asg (.nam 2) (.blt .rng1 (.cons (.blt .max2 (.cons (.blt .len (.cons (.var 0) .nil)) (.cons (.blt .len (.cons (.var 1) .nil)) .nil))) .nil))) (.seq (.ret (.comp (.nam 3) (.ival (.var 2)) (.cons (.cmp .ne (.call 10 (.cons (.var 0) (.cons (.var 3) .nil))) (.call 10 (.cons (.var 1) (.cons (.var 3) .nil)))) .nil) (.tup (.cons (.var 3) (.cons (.call 10 (.cons (.var 1) (.cons (.var 3) .nil))) .nil))) [3])) .nil))
/-- writes_for(disk, contents): 0 disk 1 contents 2 turned 3 found 4 at 5 number 6 content -/
def b_writes_for : S := (.seq (.asg (.nam 2) (.call 11 (.cons (.idx (.var 0) (.con (.int 2))) (.cons (.var 1) .nil)))) (.seq (.ite (.cmp .eq (.var 2) (.lst .nil)) (.seq (.ret (.lst .nil)) .nil) .nil) (.seq (.own 3 (.comp (.tup (.cons (.nam 4) (.cons (.tup (.cons (.nam 5) (.cons (.nam 6) .nil))) .nil))) (.ienum (.var 2)) .nil (.tup (.cons (.con (.str "log")) (.cons (.var 4) (.cons (.var 5) (.cons (.var 6) .nil))))) [4, 5, 6])) (.seq (.app 3 (.tup (.cons (.con (.str "mark")) (.cons (.blt .len (.cons (.var 2) .nil)) .nil)))) (.seq (.ret (.bin .add (.bin .add (.var 3) (.comp (.tup (.cons (.nam 5) (.cons (.nam 6) .nil))) (.ival (.var 2)) .nil (.tup (.cons (.con (.str "block")) (.cons (.var 5) (.cons (.var 6) .nil)))) [5, 6])) (.lst (.cons (.tup (.cons (.con (.str "mark")) (.cons (.con .non) .nil))) .nil)))) .nil)))))
/-- rising_for(disk): 0 disk 1 number 2 content -/
def b_rising_for : S := (.seq (.ite (.cmp .is_ (.idx (.var 0) (.con (.int 0))) (.con .non)) (.seq (.ret (.lst .nil)) .nil) .nil) (.seq (.ret (.bin .add (.comp (.tup (.cons (.nam 1) (.cons (.nam 2) .nil))) (.ival (.slc (.idx (.var 0) (.con (.int 1))) .nil (.cons (.idx (.var 0) (.con (.int 0))) .nil))) .nil (.tup (.cons (.con (.str "block")) (.cons (.var 1) (.cons (.var 2) .nil)))) [1, 2]) (.lst (.cons (.tup (.cons (.con (.str "mark")) (.cons (.con .non) .nil))) .nil)))) .nil))
/-- risen(disk, falls): 0 disk 1 falls 2 fall -/
def b_risen_l1 : S := (.seq (.asg (.nam 0) (.call 9 (.cons (.var 0) (.cons (.slc (.call 13 (.cons (.var 0) .nil)) .nil (.cons (.var 2) .nil)) .nil)))) .nil)
def b_risen : S := (.seq (.for_ (.nam 2) (.ival (.var 1)) b_risen_l1) (.seq (.ret (.call 9 (.cons (.var 0) (.cons (.call 13 (.cons (.var 0) .nil)) .nil)))) .nil))
/-- committed_on(disk, contents, falls): 0 disk 1 contents 2 falls 3 writes -/
def b_committed_on : S := (.seq (.asg (.nam 3) (.call 12 (.cons (.var 0) (.cons (.var 1) .nil)))) (.seq (.ite (.cmp .eq (.var 2) (.tup .nil)) (.seq (.ret (.call 9 (.cons (.var 0) (.cons (.var 3) .nil)))) .nil) .nil) (.seq (.ret (.call 14 (.cons (.call 9 (.cons (.var 0) (.cons (.slc (.var 3) .nil (.cons (.idx (.var 2) (.con (.int 0))) .nil)) .nil))) (.cons (.slc (.var 2) (.cons (.con (.int 1)) .nil) .nil) .nil)))) .nil)))
/-- fits_falls(value): 0 value 1 one -/
def b_fits_falls : S := (.seq (.ret (.and (.call 1 (.cons (.var 0) (.cons (.con (.int 0)) (.cons (.glo 3) .nil)))) (.blt .all (.cons (.comp (.nam 1) (.ival (.var 0)) .nil (.call 0 (.cons (.var 1) (.cons (.con (.int 0)) (.cons (.glo 4) .nil)))) [1]) .nil)))) .nil)
/-- need_disk(value): 0 value -/
def b_need_disk : S := (.seq (.ite (.not (.call 6 (.cons (.var 0) .nil))) (.seq .raise .nil) .nil) .nil)
/-- need_rest(value): 0 value -/
def b_need_rest : S := (.seq (.exp (.call 17 (.cons (.var 0) .nil))) (.seq (.ite (.cmp .isNot (.idx (.var 0) (.con (.int 0))) (.con .non)) (.seq .raise .nil) .nil) .nil))
/-- need_contents(value): 0 value -/
def b_need_contents : S := (.seq (.ite (.not (.call 3 (.cons (.var 0) .nil))) (.seq .raise .nil) .nil) .nil)
/-- need_falls(value): 0 value -/
def b_need_falls : S := (.seq (.ite (.not (.call 16 (.cons (.var 0) .nil))) (.seq .raise .nil) .nil) .nil)
/-- commit_writes(disk, contents): 0 disk 1 contents -/
def b_commit_writes : S := (.seq (.exp (.call 18 (.cons (.var 0) .nil))) (.seq (.exp (.call 19 (.cons (.var 1) .nil))) (.seq (.ret (.blt .tuple (.cons (.call 12 (.cons (.var 0) (.cons (.var 1) .nil))) .nil))) .nil)))
/-- commit_on(disk, contents, falls): 0 disk 1 contents 2 falls -/
def b_commit_on : S := (.seq (.exp (.call 18 (.cons (.var 0) .nil))) (.seq (.exp (.call 19 (.cons (.var 1) .nil))) (.seq (.exp (.call 20 (.cons (.var 2) .nil))) (.seq (.ret (.call 15 (.cons (.var 0) (.cons (.var 1) (.cons (.var 2) .nil))))) .nil))))
/-- _law_cup(script): 0 script 1 cell -/
def b__law_cup : S := (.seq (.asg (.nam 1) (.blt .abs (.cons (.idx (.bin .add (.blt .list (.cons (.var 0) .nil)) (.lst (.cons (.con (.int 0)) .nil))) (.con (.int 0))) .nil))) (.seq (.ret (.lst (.cons (.ite (.cmp .ge (.var 1) (.bin .pow (.con (.int 10)) (.con (.int 18)))) (.bin .fdiv (.var 1) (.con (.int 113))) (.con (.int 0))) (.cons (.bin .add (.bin .mod (.blt .int (.cons (.bin .add (.bin .mul (.var 1) (.con (.int 349))) (.con (.int 3803))) .nil)) (.con (.int 2077503011))) (.con (.int 227))) .nil)))) .nil))
/-- _law_roll(cup, many): 0 cup 1 many 2 deep 3 found -/
def b__law_roll : S := (.seq (.ite (.cmp .gt (.idx (.var 0) (.con (.int 0))) (.con (.int 0))) (.seq (.asg (.nam 3) (.bin .mod (.blt .int (.cons (.idx (.var 0) (.con (.int 0))) .nil)) (.var 1))) (.seq (.setB (.var 0) (.con (.int 0)) (.bin .fdiv (.idx (.var 0) (.con (.int 0))) (.var 1))) (.seq (.ret (.var 3)) .nil))) .nil) (.seq (.setB (.var 0) (.con (.int 1)) (.bin .mod (.blt .int (.cons (.bin .add (.bin .mul (.idx (.var 0) (.con (.int 1))) (.con (.int 31151))) (.con (.int 8101))) .nil)) (.con (.int 2147483237)))) (.seq (.asg (.nam 2) (.bin .mod (.blt .int (.cons (.bin .mul (.idx (.var 0) (.con (.int 1))) (.bin .add (.idx (.var 0) (.con (.int 1))) (.con (.int 283)))) .nil)) (.con (.int 2147483587)))) (.seq (.ret (.bin .mod (.blt .int (.cons (.bin .fdiv (.var 2) (.con (.int 883))) .nil)) (.var 1))) .nil))))
/-- _law_some(cup, things): 0 cup 1 things -/
def b__law_some : S := (.seq (.ret (.idx (.var 1) (.call 24 (.cons (.var 0) (.cons (.blt .len (.cons (.var 1) .nil)) .nil))))) .nil)
/-- _law_content(cup): 0 cup 1 turn -/
def b__law_content : S := (.seq (.ret (.blt .tuple (.cons (.comp (.nam 1) (.irng (.call 25 (.cons (.var 0) (.cons (.lst (.cons (.con (.int 0)) (.cons (.con (.int 0)) (.cons (.con (.int 1)) (.cons (.con (.int 2)) (.cons (.con (.int 3)) .nil)))))) .nil)))) .nil (.call 24 (.cons (.var 0) (.cons (.con (.int 256)) .nil))) [1]) .nil))) .nil)
/-- _law_contents(cup, most): 0 cup 1 most 2 turn -/
def b__law_contents : S := (.seq (.ret (.blt .tuple (.cons (.comp (.nam 2) (.irng (.bin .add (.con (.int 1)) (.call 24 (.cons (.var 0) (.cons (.var 1) .nil))))) .nil (.call 26 (.cons (.var 0) .nil)) [2]) .nil))) .nil)
/-- _law_near_contents(cup, contents): 0 cup 1 contents 2 found 3 one -/
def b__law_near_contents : S := (.seq (.asg (.nam 2) (.comp (.nam 3) (.ival (.var 1)) .nil (.ite (.cmp .eq (.call 24 (.cons (.var 0) (.cons (.con (.int 3)) .nil))) (.con (.int 0))) (.call 26 (.cons (.var 0) .nil)) (.var 3)) [3])) (.seq (.ret (.blt .tuple (.cons (.call 25 (.cons (.var 0) (.cons (.lst (.cons (.var 2) (.cons (.var 2) (.cons (.bin .add (.var 2) (.lst (.cons (.call 26 (.cons (.var 0) .nil)) (.cons (.call 26 (.cons (.var 0) .nil)) .nil)))) (.cons (.slc (.var 2) .nil (.cons (.con (.int 1)) .nil)) .nil))))) .nil))) .nil))) .nil))
/-- _law_disk(cup): 0 cup 1 log 2 mark 3 turn -/
def b__law_disk : S := (.seq (.asg (.nam 1) (.blt .tuple (.cons (.comp (.nam 3) (.irng (.call 24 (.cons (.var 0) (.cons (.con (.int 5)) .nil)))) .nil (.tup (.cons (.call 24 (.cons (.var 0) (.cons (.con (.int 6)) .nil))) (.cons (.call 26 (.cons (.var 0) .nil)) .nil))) [3]) .nil))) (.seq (.asg (.nam 2) (.ite (.and (.cmp .ne (.var 1) (.tup .nil)) (.cmp .gt (.call 24 (.cons (.var 0) (.cons (.con (.int 3)) .nil))) (.con (.int 0)))) (.bin .add (.con (.int 1)) (.call 24 (.cons (.var 0) (.cons (.blt .len (.cons (.var 1) .nil)) .nil)))) (.con .non))) (.seq (.ret (.tup (.cons (.var 2) (.cons (.var 1) (.cons (.call 27 (.cons (.var 0) (.cons (.con (.int 4)) .nil))) .nil))))) .nil)))
/-- _law_rest(cup): 0 cup -/
def b__law_rest : S := (.seq (.ret (.bin .add (.tup (.cons (.con .non) .nil)) (.slc (.call 29 (.cons (.var 0) .nil)) (.cons (.con (.int 1)) .nil) .nil))) .nil)
/-- _law_at(blocks, number): 0 blocks 1 number -/
def b__law_at : S := (.seq (.ret (.ite (.cmp .lt (.var 1) (.blt .len (.cons (.var 0) .nil))) (.idx (.var 0) (.var 1)) (.tup .nil))) .nil)
/-- _law_alike_blocks(one, other): 0 one 1 other 2 number -/
def b__law_alike_blocks : S := (.seq (.ret (.cmp .eq (.comp (.nam 2) (.irng (.blt .max2 (.cons (.blt .len (.cons (.var 0) .nil)) (.cons (.blt .len (.cons (.var 1) .nil)) .nil)))) (.cons (.cmp .ne (.call 31 (.cons (.var 0) (.cons (.var 2) .nil))) (.call 31 (.cons (.var 1) (.cons (.var 2) .nil)))) .nil) (.var 2) [2]) (.lst .nil))) .nil)
/-- _law_written(disk, write): 0 disk 1 write 2 mark 3 log 4 blocks -/
def b__law_written_l1 : S := (.seq (.app 4 (.tup .nil)) .nil)
def b__law_written : S := (.seq (.par [(2, false), (3, false), (4, true)] (.cons (.idx (.var 0) (.con (.int 0))) (.cons (.blt .list (.cons (.idx (.var 0) (.con (.int 1))) .nil)) (.cons (.blt .list (.cons (.idx (.var 0) (.con (.int 2))) .nil)) .nil)))) (.seq (.ite (.cmp .eq (.idx (.var 1) (.con (.int 0))) (.con (.str "mark"))) (.seq (.ret (.tup (.cons (.idx (.var 1) (.con (.int 1))) (.cons (.idx (.var 0) (.con (.int 1))) (.cons (.idx (.var 0) (.con (.int 2))) .nil))))) .nil) .nil) (.seq (.ite (.cmp .eq (.idx (.var 1) (.con (.int 0))) (.con (.str "log"))) (.seq (.asg (.nam 3) (.bin .add (.bin .add (.slc (.var 3) .nil (.cons (.idx (.var 1) (.con (.int 1))) .nil)) (.lst (.cons (.tup (.cons (.idx (.var 1) (.con (.int 2))) (.cons (.idx (.var 1) (.con (.int 3))) .nil))) .nil))) (.slc (.var 3) (.cons (.bin .add (.idx (.var 1) (.con (.int 1))) (.con (.int 1))) .nil) .nil))) .nil) (.seq (.while_ (.cmp .le (.blt .len (.cons (.var 4) .nil)) (.idx (.var 1) (.con (.int 1)))) b__law_written_l1) (.seq (.own 4 (.bin .add (.bin .add (.slc (.var 4) .nil (.cons (.idx (.var 1) (.con (.int 1))) .nil)) (.lst (.cons (.idx (.var 1) (.con (.int 2))) .nil))) (.slc (.var 4) (.cons (.bin .add (.idx (.var 1) (.con (.int 1))) (.con (.int 1))) .nil) .nil))) .nil))) (.seq (.ret (.tup (.cons (.var 2) (.cons (.blt .tuple (.cons (.var 3) .nil)) (.cons (.blt .tuple (.cons (.var 4) .nil)) .nil))))) .nil))))
/-- _law_all_written(disk, writes): 0 disk 1 writes 2 write -/
def b__law_all_written_l1 : S := (.seq (.asg (.nam 0) (.call 33 (.cons (.var 0) (.cons (.var 2) .nil)))) .nil)
def b__law_all_written : S := (.seq (.for_ (.nam 2) (.ival (.var 1)) b__law_all_written_l1) (.seq (.ret (.var 0)) .nil))
/-- _law_commit(disk, contents): 0 disk 1 contents 2 numbers 3 more 4 old 5 found 6 at 7 number -/
def b__law_commit_l1 : S := (.seq (.app 5 (.tup (.cons (.con (.str "log")) (.cons (.var 6) (.cons (.var 7) (.cons (.call 31 (.cons (.var 1) (.cons (.var 7) .nil))) .nil)))))) .nil)
def b__law_commit : S := (.seq (.par [(4, false), (5, true)] (.cons (.idx (.var 0) (.con (.int 2))) (.cons (.lst .nil) .nil))) (.seq (.asg (.nam 2) (.comp (.nam 6) (.irng (.blt .max2 (.cons (.blt .len (.cons (.var 4) .nil)) (.cons (.blt .len (.cons (.var 1) .nil)) .nil)))) (.cons (.cmp .ne (.call 31 (.cons (.var 4) (.cons (.var 6) .nil))) (.call 31 (.cons (.var 1) (.cons (.var 6) .nil)))) .nil) (.var 6) [6])) (.seq (.for_ (.tup (.cons (.nam 6) (.cons (.nam 7) .nil))) (.ienum (.var 2)) b__law_commit_l1) (.seq (.asg (.nam 3) (.comp (.nam 7) (.ival (.var 2)) .nil (.tup (.cons (.con (.str "block")) (.cons (.var 7) (.cons (.call 31 (.cons (.var 1) (.cons (.var 7) .nil))) .nil)))) [7])) (.seq (.ret (.ite (.cmp .ne (.var 2) (.lst .nil)) (.bin .add (.bin .add (.bin .add (.var 5) (.lst (.cons (.tup (.cons (.con (.str "mark")) (.cons (.blt .len (.cons (.var 2) .nil)) .nil))) .nil))) (.var 3)) (.lst (.cons (.tup (.cons (.con (.str "mark")) (.cons (.con .non) .nil))) .nil))) (.lst .nil))) .nil)))))
/-- _law_rising(disk): 0 disk 1 slot -/
def b__law_rising : S := (.seq (.ite (.cmp .is_ (.idx (.var 0) (.con (.int 0))) (.con .non)) (.seq (.ret (.lst .nil)) .nil) .nil) (.seq (.ret (.bin .add (.comp (.nam 1) (.ival (.slc (.idx (.var 0) (.con (.int 1))) .nil (.cons (.idx (.var 0) (.con (.int 0))) .nil))) .nil (.bin .add (.tup (.cons (.con (.str "block")) .nil)) (.var 1)) [1]) (.lst (.cons (.tup (.cons (.con (.str "mark")) (.cons (.con .non) .nil))) .nil)))) .nil))
/-- _law_up(disk, falls): 0 disk 1 falls 2 fall -/
def b__law_up_l1 : S := (.seq (.asg (.nam 0) (.call 34 (.cons (.var 0) (.cons (.slc (.call 36 (.cons (.var 0) .nil)) .nil (.cons (.var 2) .nil)) .nil)))) .nil)
def b__law_up : S := (.seq (.for_ (.nam 2) (.ival (.var 1)) b__law_up_l1) (.seq (.ret (.call 34 (.cons (.var 0) (.cons (.call 36 (.cons (.var 0) .nil)) .nil)))) .nil))
/-- _law_falls(cup, most): 0 cup 1 most 2 turn -/
def b__law_falls : S := (.seq (.ret (.blt .tuple (.cons (.comp (.nam 2) (.irng (.call 25 (.cons (.var 0) (.cons (.lst (.cons (.con (.int 0)) (.cons (.con (.int 1)) (.cons (.con (.int 1)) (.cons (.con (.int 2)) (.cons (.con (.int 3)) .nil)))))) .nil)))) .nil (.call 24 (.cons (.var 0) (.cons (.bin .add (.var 1) (.con (.int 1))) .nil))) [2]) .nil))) .nil)
/-- _law_two_disks():  -/
def b__law_two_disks : S := (.seq (.ret (.tup (.cons (.tup (.cons (.con .non) (.cons (.tup .nil) (.cons (.tup (.cons (.tup (.cons (.con (.int 1)) (.cons (.con (.int 0)) (.cons (.con (.int 0)) .nil)))) (.cons (.tup (.cons (.con (.int 7)) .nil)) .nil))) .nil)))) (.cons (.tup (.cons (.con (.int 2)) (.cons (.tup (.cons (.tup (.cons (.con (.int 1)) (.cons (.tup (.cons (.con (.int 8)) (.cons (.con (.int 9)) .nil))) .nil))) (.cons (.tup (.cons (.con (.int 3)) (.cons (.tup (.cons (.con (.int 5)) .nil)) .nil))) (.cons (.tup (.cons (.con (.int 0)) (.cons (.tup (.cons (.con (.int 4)) .nil)) .nil))) .nil)))) (.cons (.tup (.cons (.tup (.cons (.con (.int 1)) (.cons (.con (.int 0)) (.cons (.con (.int 0)) .nil)))) (.cons (.tup (.cons (.con (.int 8)) (.cons (.con (.int 9)) .nil))) .nil))) .nil)))) .nil)))) .nil)
/-- law(script): 0 script 1 cup 2 turn 3 rows 4 old 5 told 6 disk 7 contents 8 writes 9 place 10 quiet 11 marked 12 falls 13 is_new 14 due -/
def b_law_l2 : S := (.seq (.asg (.nam 12) (.bin .add (.tup (.cons (.var 9) .nil)) (.call 38 (.cons (.var 1) (.cons (.blt .len (.cons (.var 8) .nil)) .nil))))) (.seq (.asg (.nam 5) (.call 22 (.cons (.var 6) (.cons (.var 7) (.cons (.var 12) .nil))))) (.seq (.ite (.or (.cmp .ne (.blt .repr (.cons (.var 5) .nil)) (.blt .repr (.cons (.call 37 (.cons (.call 34 (.cons (.var 6) (.cons (.slc (.var 8) .nil (.cons (.var 9) .nil)) .nil))) (.cons (.slc (.var 12) (.cons (.con (.int 1)) .nil) .nil) .nil))) .nil))) (.cmp .isNot (.idx (.var 5) (.con (.int 0))) (.con .non))) (.seq (.ret (.con (.bl false))) .nil) .nil) (.seq (.asg (.nam 13) (.or (.cmp .eq (.var 8) (.lst .nil)) (.cmp .gt (.bin .mul (.con (.int 2)) (.var 9)) (.bin .sub (.blt .len (.cons (.var 8) .nil)) (.con (.int 2)))))) (.seq (.ite (.not (.call 32 (.cons (.idx (.var 5) (.con (.int 2))) (.cons (.ite (.var 13) (.var 7) (.idx (.var 6) (.con (.int 2)))) .nil)))) (.seq (.ret (.con (.bl false))) .nil) .nil) .nil)))))
def b_law_l1 : S := (.seq (.asg (.nam 6) (.call 30 (.cons (.var 1) .nil))) (.seq (.asg (.nam 7) (.call 28 (.cons (.var 1) (.cons (.idx (.var 6) (.con (.int 2))) .nil)))) (.seq (.asg (.nam 8) (.call 35 (.cons (.var 6) (.cons (.var 7) .nil)))) (.seq (.ite (.cmp .ne (.blt .repr (.cons (.call 22 (.cons (.var 6) (.cons (.var 7) (.cons (.tup .nil) .nil)))) .nil)) (.blt .repr (.cons (.call 34 (.cons (.var 6) (.cons (.var 8) .nil))) .nil))) (.seq (.ret (.con (.bl false))) .nil) .nil) (.seq (.for_ (.nam 9) (.irng (.bin .add (.blt .len (.cons (.var 8) .nil)) (.con (.int 2)))) b_law_l2) .nil)))))
def b_law : S := (.seq (.box 1 (.call 23 (.cons (.var 0) .nil))) (.seq (.for_ (.nam 2) (.irng (.con (.int 3))) b_law_l1) (.seq (.asg (.tup (.cons (.nam 10) (.cons (.nam 11) .nil))) (.call 39 .nil)) (.seq (.asg (.nam 3) (.lst (.cons (.tup (.cons (.tup .nil) (.cons (.tup (.cons (.tup (.cons (.con (.int 2)) .nil)) (.cons (.tup .nil) .nil))) .nil))) (.cons (.tup (.cons (.tup (.cons (.con (.int 0)) .nil)) (.cons (.idx (.var 10) (.con (.int 2))) .nil))) (.cons (.tup (.cons (.tup (.cons (.con (.int 1)) .nil)) (.cons (.idx (.var 10) (.con (.int 2))) .nil))) (.cons (.tup (.cons (.tup (.cons (.con (.int 2)) .nil)) (.cons (.idx (.var 10) (.con (.int 2))) .nil))) (.cons (.tup (.cons (.tup (.cons (.con (.int 3)) .nil)) (.cons (.tup (.cons (.tup (.cons (.con (.int 2)) .nil)) (.cons (.tup .nil) .nil))) .nil))) (.cons (.tup (.cons (.tup (.cons (.con (.int 4)) (.cons (.con (.int 0)) (.cons (.con (.int 1)) .nil)))) (.cons (.tup (.cons (.tup (.cons (.con (.int 2)) .nil)) (.cons (.tup .nil) .nil))) .nil))) .nil)))))))) (.seq (.asg (.nam 3) (.bin .add (.var 3) (.lst (.cons (.tup (.cons (.tup (.cons (.con (.int 5)) .nil)) (.cons (.tup (.cons (.tup (.cons (.con (.int 2)) .nil)) (.cons (.tup .nil) .nil))) .nil))) (.cons (.tup (.cons (.tup (.cons (.con (.int 6)) .nil)) (.cons (.tup (.cons (.tup (.cons (.con (.int 2)) .nil)) (.cons (.tup .nil) .nil))) .nil))) (.cons (.tup (.cons (.tup (.cons (.con (.int 10000)) (.cons (.con (.int 0)) .nil))) (.cons (.tup (.cons (.tup (.cons (.con (.int 2)) .nil)) (.cons (.tup .nil) .nil))) .nil))) .nil)))))) (.seq (.ite (.cmp .ne (.comp (.tup (.cons (.nam 12) (.cons (.nam 14) .nil))) (.ival (.var 3)) (.cons (.cmp .ne (.idx (.call 22 (.cons (.var 10) (.cons (.tup (.cons (.tup (.cons (.con (.int 2)) .nil)) .nil)) (.cons (.var 12) .nil)))) (.con (.int 2))) (.var 14)) .nil) (.var 12) [12, 14]) (.lst .nil)) (.seq (.ret (.con (.bl false))) .nil) .nil) (.seq (.asg (.nam 4) (.tup (.cons (.con .non) (.cons (.tup (.cons (.tup (.cons (.con (.int 0)) (.cons (.tup (.cons (.con (.int 1)) .nil)) .nil))) (.cons (.tup (.cons (.con (.int 1)) (.cons (.tup (.cons (.con (.int 2)) .nil)) .nil))) (.cons (.tup (.cons (.con (.int 2)) (.cons (.tup (.cons (.con (.int 3)) .nil)) .nil))) .nil)))) (.cons (.tup (.cons (.tup (.cons (.con (.int 9)) .nil)) (.cons (.tup (.cons (.con (.int 8)) .nil)) (.cons (.tup (.cons (.con (.int 7)) .nil)) .nil)))) .nil))))) (.seq (.asg (.nam 5) (.call 22 (.cons (.var 4) (.cons (.tup (.cons (.tup (.cons (.con (.int 9)) .nil)) (.cons (.tup (.cons (.con (.int 6)) .nil)) (.cons (.tup (.cons (.con (.int 7)) .nil)) .nil)))) (.cons (.tup (.cons (.con (.int 2)) .nil)) .nil))))) (.seq (.ite (.cmp .ne (.var 5) (.tup (.cons (.con .non) (.cons (.tup (.cons (.tup (.cons (.con (.int 1)) (.cons (.tup (.cons (.con (.int 6)) .nil)) .nil))) (.cons (.tup (.cons (.con (.int 1)) (.cons (.tup (.cons (.con (.int 2)) .nil)) .nil))) (.cons (.tup (.cons (.con (.int 2)) (.cons (.tup (.cons (.con (.int 3)) .nil)) .nil))) .nil)))) (.cons (.tup (.cons (.tup (.cons (.con (.int 9)) .nil)) (.cons (.tup (.cons (.con (.int 6)) .nil)) (.cons (.tup (.cons (.con (.int 7)) .nil)) .nil)))) .nil))))) (.seq (.ret (.con (.bl false))) .nil) .nil) (.seq (.ret (.and (.cmp .eq (.blt .len (.cons (.call 21 (.cons (.var 10) (.cons (.tup (.cons (.tup (.cons (.con (.int 2)) .nil)) .nil)) .nil))) .nil)) (.con (.int 6))) (.cmp .eq (.call 22 (.cons (.var 10) (.cons (.idx (.var 10) (.con (.int 2))) (.cons (.tup (.cons (.con (.int 0)) (.cons (.con (.int 0)) .nil))) .nil)))) (.var 10)))) .nil))))))))))
def defs : List Def := [⟨3, 3, b_is_whole⟩, ⟨3, 3, b_is_tuple_of⟩, ⟨1, 2, b_fits_content⟩, ⟨1, 2, b_fits_contents⟩, ⟨1, 1, b_fits_slot⟩, ⟨2, 2, b_fits_mark⟩, ⟨1, 2, b_fits_disk⟩, ⟨3, 3, b_with_item⟩, ⟨2, 5, b_written_to⟩, ⟨2, 3, b_all_written⟩, ⟨2, 2, b_content_at⟩, ⟨2, 4, b_turned_in⟩, ⟨2, 7, b_writes_for⟩, ⟨1, 3, b_rising_for⟩, ⟨2, 3, b_risen⟩, ⟨3, 4, b_committed_on⟩, ⟨1, 2, b_fits_falls⟩, ⟨1, 1, b_need_disk⟩, ⟨1, 1, b_need_rest⟩, ⟨1, 1, b_need_contents⟩, ⟨1, 1, b_need_falls⟩, ⟨2, 2, b_commit_writes⟩, ⟨3, 3, b_commit_on⟩, ⟨1, 2, b__law_cup⟩, ⟨2, 4, b__law_roll⟩, ⟨2, 2, b__law_some⟩, ⟨1, 2, b__law_content⟩, ⟨2, 3, b__law_contents⟩, ⟨2, 4, b__law_near_contents⟩, ⟨1, 4, b__law_disk⟩, ⟨1, 1, b__law_rest⟩, ⟨2, 2, b__law_at⟩, ⟨2, 3, b__law_alike_blocks⟩, ⟨2, 5, b__law_written⟩, ⟨2, 3, b__law_all_written⟩, ⟨2, 8, b__law_commit⟩, ⟨1, 2, b__law_rising⟩, ⟨2, 3, b__law_up⟩, ⟨2, 3, b__law_falls⟩, ⟨0, 0, b__law_two_disks⟩, ⟨1, 15, b_law⟩]
def globs : List (Option D) := [some (.int 512), some (.int 1000), some (.int 1000), some (.int 10), some (.int 10000)]
def G (g : Nat) : Option D := (globs[g]?).join
abbrev run := runD defs G
theorem r_is_whole (n : Nat) (a0 a1 a2 : D) (bx : Bx) : run (n + 1) 0 [a0, a1, a2] bx = fin (exS (run n) G b_is_whole [some a0, some a1, some a2] bx) := rfl
theorem r_is_tuple_of (n : Nat) (a0 a1 a2 : D) (bx : Bx) : run (n + 1) 1 [a0, a1, a2] bx = fin (exS (run n) G b_is_tuple_of [some a0, some a1, some a2] bx) := rfl
theorem r_fits_content (n : Nat) (a0 : D) (bx : Bx) : run (n + 1) 2 [a0] bx = fin (exS (run n) G b_fits_content [some a0, none] bx) := rfl
theorem r_fits_contents (n : Nat) (a0 : D) (bx : Bx) : run (n + 1) 3 [a0] bx = fin (exS (run n) G b_fits_contents [some a0, none] bx) := rfl
theorem r_fits_slot (n : Nat) (a0 : D) (bx : Bx) : run (n + 1) 4 [a0] bx = fin (exS (run n) G b_fits_slot [some a0] bx) := rfl
theorem r_fits_mark (n : Nat) (a0 a1 : D) (bx : Bx) : run (n + 1) 5 [a0, a1] bx = fin (exS (run n) G b_fits_mark [some a0, some a1] bx) := rfl
theorem r_fits_disk (n : Nat) (a0 : D) (bx : Bx) : run (n + 1) 6 [a0] bx = fin (exS (run n) G b_fits_disk [some a0, none] bx) := rfl
theorem r_with_item (n : Nat) (a0 a1 a2 : D) (bx : Bx) : run (n + 1) 7 [a0, a1, a2] bx = fin (exS (run n) G b_with_item [some a0, some a1, some a2] bx) := rfl
theorem r_written_to (n : Nat) (a0 a1 : D) (bx : Bx) : run (n + 1) 8 [a0, a1] bx = fin (exS (run n) G b_written_to [some a0, some a1, none, none, none] bx) := rfl
theorem r_all_written (n : Nat) (a0 a1 : D) (bx : Bx) : run (n + 1) 9 [a0, a1] bx = fin (exS (run n) G b_all_written [some a0, some a1, none] bx) := rfl
theorem r_content_at (n : Nat) (a0 a1 : D) (bx : Bx) : run (n + 1) 10 [a0, a1] bx = fin (exS (run n) G b_content_at [some a0, some a1] bx) := rfl
theorem r_turned_in (n : Nat) (a0 a1 : D) (bx : Bx) : run (n + 1) 11 [a0, a1] bx = fin (exS (run n) G b_turned_in [some a0, some a1, none, none] bx) := rfl
theorem r_writes_for (n : Nat) (a0 a1 : D) (bx : Bx) : run (n + 1) 12 [a0, a1] bx = fin (exS (run n) G b_writes_for [some a0, some a1, none, none, none, none, none] bx) := rfl
theorem r_rising_for (n : Nat) (a0 : D) (bx : Bx) : run (n + 1) 13 [a0] bx = fin (exS (run n) G b_rising_for [some a0, none, none] bx) := rfl
theorem r_risen (n : Nat) (a0 a1 : D) (bx : Bx) : run (n + 1) 14 [a0, a1] bx = fin (exS (run n) G b_risen [some a0, some a1, none] bx) := rfl
theorem r_committed_on (n : Nat) (a0 a1 a2 : D) (bx : Bx) : run (n + 1) 15 [a0, a1, a2] bx = fin (exS (run n) G b_committed_on [some a0, some a1, some a2, none] bx) := rfl
theorem r_fits_falls (n : Nat) (a0 : D) (bx : Bx) : run (n + 1) 16 [a0] bx = fin (exS (run n) G b_fits_falls [some a0, none] bx) := rfl
theorem r_need_disk (n : Nat) (a0 : D) (bx : Bx) : run (n + 1) 17 [a0] bx = fin (exS (run n) G b_need_disk [some a0] bx) := rfl
theorem r_need_rest (n : Nat) (a0 : D) (bx : Bx) : run (n + 1) 18 [a0] bx = fin (exS (run n) G b_need_rest [some a0] bx) := rfl
theorem r_need_contents (n : Nat) (a0 : D) (bx : Bx) : run (n + 1) 19 [a0] bx = fin (exS (run n) G b_need_contents [some a0] bx) := rfl
theorem r_need_falls (n : Nat) (a0 : D) (bx : Bx) : run (n + 1) 20 [a0] bx = fin (exS (run n) G b_need_falls [some a0] bx) := rfl
theorem r_commit_writes (n : Nat) (a0 a1 : D) (bx : Bx) : run (n + 1) 21 [a0, a1] bx = fin (exS (run n) G b_commit_writes [some a0, some a1] bx) := rfl
theorem r_commit_on (n : Nat) (a0 a1 a2 : D) (bx : Bx) : run (n + 1) 22 [a0, a1, a2] bx = fin (exS (run n) G b_commit_on [some a0, some a1, some a2] bx) := rfl
theorem r__law_cup (n : Nat) (a0 : D) (bx : Bx) : run (n + 1) 23 [a0] bx = fin (exS (run n) G b__law_cup [some a0, none] bx) := rfl
theorem r__law_roll (n : Nat) (a0 a1 : D) (bx : Bx) : run (n + 1) 24 [a0, a1] bx = fin (exS (run n) G b__law_roll [some a0, some a1, none, none] bx) := rfl
theorem r__law_some (n : Nat) (a0 a1 : D) (bx : Bx) : run (n + 1) 25 [a0, a1] bx = fin (exS (run n) G b__law_some [some a0, some a1] bx) := rfl
theorem r__law_content (n : Nat) (a0 : D) (bx : Bx) : run (n + 1) 26 [a0] bx = fin (exS (run n) G b__law_content [some a0, none] bx) := rfl
theorem r__law_contents (n : Nat) (a0 a1 : D) (bx : Bx) : run (n + 1) 27 [a0, a1] bx = fin (exS (run n) G b__law_contents [some a0, some a1, none] bx) := rfl
theorem r__law_near_contents (n : Nat) (a0 a1 : D) (bx : Bx) : run (n + 1) 28 [a0, a1] bx = fin (exS (run n) G b__law_near_contents [some a0, some a1, none, none] bx) := rfl
theorem r__law_disk (n : Nat) (a0 : D) (bx : Bx) : run (n + 1) 29 [a0] bx = fin (exS (run n) G b__law_disk [some a0, none, none, none] bx) := rfl
theorem r__law_rest (n : Nat) (a0 : D) (bx : Bx) : run (n + 1) 30 [a0] bx = fin (exS (run n) G b__law_rest [some a0] bx) := rfl
theorem r__law_at (n : Nat) (a0 a1 : D) (bx : Bx) : run (n + 1) 31 [a0, a1] bx = fin (exS (run n) G b__law_at [some a0, some a1] bx) := rfl
theorem r__law_alike_blocks (n : Nat) (a0 a1 : D) (bx : Bx) : run (n + 1) 32 [a0, a1] bx = fin (exS (run n) G b__law_alike_blocks [some a0, some a1, none] bx) := rfl
theorem r__law_written (n : Nat) (a0 a1 : D) (bx : Bx) : run (n + 1) 33 [a0, a1] bx = fin (exS (run n) G b__law_written [some a0, some a1, none, none, none] bx) := rfl
theorem r__law_all_written (n : Nat) (a0 a1 : D) (bx : Bx) : run (n + 1) 34 [a0, a1] bx = fin (exS (run n) G b__law_all_written [some a0, some a1, none] bx) := rfl
theorem r__law_commit (n : Nat) (a0 a1 : D) (bx : Bx) : run (n + 1) 35 [a0, a1] bx = fin (exS (run n) G b__law_commit [some a0, some a1, none, none, none, none, none, none] bx) := rfl
theorem r__law_rising (n : Nat) (a0 : D) (bx : Bx) : run (n + 1) 36 [a0] bx = fin (exS (run n) G b__law_rising [some a0, none] bx) := rfl
theorem r__law_up (n : Nat) (a0 a1 : D) (bx : Bx) : run (n + 1) 37 [a0, a1] bx = fin (exS (run n) G b__law_up [some a0, some a1, none] bx) := rfl
theorem r__law_falls (n : Nat) (a0 a1 : D) (bx : Bx) : run (n + 1) 38 [a0, a1] bx = fin (exS (run n) G b__law_falls [some a0, some a1, none] bx) := rfl
theorem r__law_two_disks (n : Nat) (bx : Bx) : run (n + 1) 39 [] bx = fin (exS (run n) G b__law_two_disks [] bx) := rfl
theorem r_law (n : Nat) (a0 : D) (bx : Bx) : run (n + 1) 40 [a0] bx = fin (exS (run n) G b_law [some a0, none, none, none, none, none, none, none, none, none, none, none, none, none, none] bx) := rfl
@[simp] theorem G_0 : G 0 = some (.int 512) := rfl
@[simp] theorem G_1 : G 1 = some (.int 1000) := rfl
@[simp] theorem G_2 : G 2 = some (.int 1000) := rfl
@[simp] theorem G_3 : G 3 = some (.int 10) := rfl
@[simp] theorem G_4 : G 4 = some (.int 10000) := rfl
end Dk.K49

set_option autoImplicit false
set_option linter.all false
set_option Elab.async false
set_option maxRecDepth 100000
set_option maxHeartbeats 0
namespace Dk.K49
open PySem PySem.Spec PyProof.Rows L2 Dk
def top (i : Nat) : Stmt := PySem.Challenge.pw_deskgrove_k49_whole_commits_with_falls.main.body.getD i (.Pass ⟨0, 0, 0, 0⟩)
def gls : List Str := ["OCTETS", "BLOCKS", "SLOTS", "FALLS", "FALL"]
def dt_is_whole : DefT := ⟨"is_whole", ["value", "low", "high"], ["value", "low", "high"], [false, false, false], false, b_is_whole, top 6⟩
def dt_is_tuple_of : DefT := ⟨"is_tuple_of", ["value", "low", "high"], ["value", "low", "high"], [false, false, false], false, b_is_tuple_of, top 7⟩
def dt_fits_content : DefT := ⟨"fits_content", ["value", "one"], ["value"], [false, false], false, b_fits_content, top 14⟩
def dt_fits_contents : DefT := ⟨"fits_contents", ["value", "one"], ["value"], [false, false], false, b_fits_contents, top 15⟩
def dt_fits_slot : DefT := ⟨"fits_slot", ["value"], ["value"], [false], false, b_fits_slot, top 16⟩
def dt_fits_mark : DefT := ⟨"fits_mark", ["log", "value"], ["log", "value"], [false, false], false, b_fits_mark, top 17⟩
def dt_fits_disk : DefT := ⟨"fits_disk", ["value", "one"], ["value"], [false, false], false, b_fits_disk, top 18⟩
def dt_with_item : DefT := ⟨"with_item", ["items", "at", "item"], ["items", "at", "item"], [false, false, false], false, b_with_item, top 19⟩
def dt_written_to : DefT := ⟨"written_to", ["disk", "write", "mark", "log", "blocks"], ["disk", "write"], [false, false, false, false, false], false, b_written_to, top 20⟩
def dt_all_written : DefT := ⟨"all_written", ["disk", "writes", "write"], ["disk", "writes"], [false, false, false], false, b_all_written, top 21⟩
def dt_content_at : DefT := ⟨"content_at", ["blocks", "number"], ["blocks", "number"], [false, false], false, b_content_at, top 22⟩
def dt_turned_in : DefT := ⟨"turned_in", ["old", "new", "numbers", "at"], ["old", "new"], [false, false, false, false], false, b_turned_in, top 23⟩
def dt_writes_for : DefT := ⟨"writes_for", ["disk", "contents", "turned", "found", "at", "number", "content"], ["disk", "contents"], [false, false, false, true, false, false, false], false, b_writes_for, top 24⟩
def dt_rising_for : DefT := ⟨"rising_for", ["disk", "number", "content"], ["disk"], [false, false, false], false, b_rising_for, top 25⟩
def dt_risen : DefT := ⟨"risen", ["disk", "falls", "fall"], ["disk", "falls"], [false, false, false], false, b_risen, top 26⟩
def dt_committed_on : DefT := ⟨"committed_on", ["disk", "contents", "falls", "writes"], ["disk", "contents", "falls"], [false, false, false, false], false, b_committed_on, top 27⟩
def dt_fits_falls : DefT := ⟨"fits_falls", ["value", "one"], ["value"], [false, false], false, b_fits_falls, top 28⟩
def dt_need_disk : DefT := ⟨"need_disk", ["value"], ["value"], [false], false, b_need_disk, top 29⟩
def dt_need_rest : DefT := ⟨"need_rest", ["value"], ["value"], [false], false, b_need_rest, top 30⟩
def dt_need_contents : DefT := ⟨"need_contents", ["value"], ["value"], [false], false, b_need_contents, top 31⟩
def dt_need_falls : DefT := ⟨"need_falls", ["value"], ["value"], [false], false, b_need_falls, top 32⟩
def dt_commit_writes : DefT := ⟨"commit_writes", ["disk", "contents"], ["disk", "contents"], [false, false], false, b_commit_writes, top 33⟩
def dt_commit_on : DefT := ⟨"commit_on", ["disk", "contents", "falls"], ["disk", "contents", "falls"], [false, false, false], false, b_commit_on, top 34⟩
def dt__law_cup : DefT := ⟨"_law_cup", ["script", "cell"], ["script"], [false, false], true, b__law_cup, top 36⟩
def dt__law_roll : DefT := ⟨"_law_roll", ["cup", "many", "deep", "found"], ["cup", "many"], [false, false, false, false], false, b__law_roll, top 37⟩
def dt__law_some : DefT := ⟨"_law_some", ["cup", "things"], ["cup", "things"], [false, false], false, b__law_some, top 38⟩
def dt__law_content : DefT := ⟨"_law_content", ["cup", "turn"], ["cup"], [false, false], false, b__law_content, top 39⟩
def dt__law_contents : DefT := ⟨"_law_contents", ["cup", "most", "turn"], ["cup", "most"], [false, false, false], false, b__law_contents, top 40⟩
def dt__law_near_contents : DefT := ⟨"_law_near_contents", ["cup", "contents", "found", "one"], ["cup", "contents"], [false, false, false, false], false, b__law_near_contents, top 41⟩
def dt__law_disk : DefT := ⟨"_law_disk", ["cup", "log", "mark", "turn"], ["cup"], [false, false, false, false], false, b__law_disk, top 42⟩
def dt__law_rest : DefT := ⟨"_law_rest", ["cup"], ["cup"], [false], false, b__law_rest, top 43⟩
def dt__law_at : DefT := ⟨"_law_at", ["blocks", "number"], ["blocks", "number"], [false, false], false, b__law_at, top 44⟩
def dt__law_alike_blocks : DefT := ⟨"_law_alike_blocks", ["one", "other", "number"], ["one", "other"], [false, false, false], false, b__law_alike_blocks, top 45⟩
def dt__law_written : DefT := ⟨"_law_written", ["disk", "write", "mark", "log", "blocks"], ["disk", "write"], [false, false, false, false, true], false, b__law_written, top 46⟩
def dt__law_all_written : DefT := ⟨"_law_all_written", ["disk", "writes", "write"], ["disk", "writes"], [false, false, false], false, b__law_all_written, top 47⟩
def dt__law_commit : DefT := ⟨"_law_commit", ["disk", "contents", "numbers", "more", "old", "found", "at", "number"], ["disk", "contents"], [false, false, false, false, false, true, false, false], false, b__law_commit, top 48⟩
def dt__law_rising : DefT := ⟨"_law_rising", ["disk", "slot"], ["disk"], [false, false], false, b__law_rising, top 49⟩
def dt__law_up : DefT := ⟨"_law_up", ["disk", "falls", "fall"], ["disk", "falls"], [false, false, false], false, b__law_up, top 50⟩
def dt__law_falls : DefT := ⟨"_law_falls", ["cup", "most", "turn"], ["cup", "most"], [false, false, false], false, b__law_falls, top 51⟩
def dt__law_two_disks : DefT := ⟨"_law_two_disks", [], [], [], false, b__law_two_disks, top 52⟩
def dt_law : DefT := ⟨"law", ["script", "cup", "turn", "rows", "old", "told", "disk", "contents", "writes", "place", "quiet", "marked", "falls", "is_new", "due"], ["script"], [false, false, false, false, false, false, false, false, false, false, false, false, false, false, false], false, b_law, top 53⟩
def ts : List DefT := [dt_is_whole, dt_is_tuple_of, dt_fits_content, dt_fits_contents, dt_fits_slot, dt_fits_mark, dt_fits_disk, dt_with_item, dt_written_to, dt_all_written, dt_content_at, dt_turned_in, dt_writes_for, dt_rising_for, dt_risen, dt_committed_on, dt_fits_falls, dt_need_disk, dt_need_rest, dt_need_contents, dt_need_falls, dt_commit_writes, dt_commit_on, dt__law_cup, dt__law_roll, dt__law_some, dt__law_content, dt__law_contents, dt__law_near_contents, dt__law_disk, dt__law_rest, dt__law_at, dt__law_alike_blocks, dt__law_written, dt__law_all_written, dt__law_commit, dt__law_rising, dt__law_up, dt__law_falls, dt__law_two_disks, dt_law]
theorem ts_defs : defsOf ts = defs := by rfl
theorem checks : ts.all (ckDef ts gls G) = true := by decide +kernel
end Dk.K49

set_option autoImplicit false
set_option linter.all false
set_option Elab.async false
set_option maxRecDepth 100000
set_option maxHeartbeats 0
namespace Dk.K49
open PySem PySem.Spec PyProof.Rows L2 Dk
def dd (t : DefT) : He.DefD := ⟨(t.x, none), t.x, t.x, defArgs t.st, defBody t.st, defScope t.st, [], []⟩
def fn : List He.DefD := [dd dt_is_whole, dd dt_is_tuple_of, dd dt_fits_content, dd dt_fits_contents, dd dt_fits_slot, dd dt_fits_mark, dd dt_fits_disk, dd dt_with_item, dd dt_written_to, dd dt_all_written, dd dt_content_at, dd dt_turned_in, dd dt_writes_for, dd dt_rising_for, dd dt_risen, dd dt_committed_on, dd dt_fits_falls, dd dt_need_disk, dd dt_need_rest, dd dt_need_contents, dd dt_need_falls, dd dt_commit_writes, dd dt_commit_on, dd dt__law_cup, dd dt__law_roll, dd dt__law_some, dd dt__law_content, dd dt__law_contents, dd dt__law_near_contents, dd dt__law_disk, dd dt__law_rest, dd dt__law_at, dd dt__law_alike_blocks, dd dt__law_written, dd dt__law_all_written, dd dt__law_commit, dd dt__law_rising, dd dt__law_up, dd dt__law_falls, dd dt__law_two_disks, dd dt_law]
def fa : List He.Fa := [.glo "is_whole", .glo "is_tuple_of", .glo "fits_content", .glo "fits_contents", .glo "fits_slot", .glo "fits_mark", .glo "fits_disk", .glo "with_item", .glo "written_to", .glo "all_written", .glo "content_at", .glo "turned_in", .glo "writes_for", .glo "rising_for", .glo "risen", .glo "committed_on", .glo "fits_falls", .glo "need_disk", .glo "need_rest", .glo "need_contents", .glo "need_falls", .glo "commit_writes", .glo "commit_on", .glo "_law_cup", .glo "_law_roll", .glo "_law_some", .glo "_law_content", .glo "_law_contents", .glo "_law_near_contents", .glo "_law_disk", .glo "_law_rest", .glo "_law_at", .glo "_law_alike_blocks", .glo "_law_written", .glo "_law_all_written", .glo "_law_commit", .glo "_law_rising", .glo "_law_up", .glo "_law_falls", .glo "_law_two_disks", .glo "law", .free "len", .free "abs", .free "max", .free "all", .free "tuple", .free "list", .free "int", .free "range", .free "isinstance", .free "enumerate", .free "bool", .free "str", .free "repr", .int "OCTETS" 512, .int "BLOCKS" 1000, .int "SLOTS" 1000, .int "FALLS" 10, .int "FALL" 10000]
def names0 : List PySem.Str := ["DeskError", "InvalidDisk", "InvalidContents", "InvalidFalls", "is_whole", "is_tuple_of", "OCTETS", "BLOCKS", "SLOTS", "FALLS", "FALL", "fits_content", "fits_contents", "fits_slot", "fits_mark", "fits_disk", "with_item", "written_to", "all_written", "content_at", "turned_in", "writes_for", "rising_for", "risen", "committed_on", "fits_falls", "need_disk", "need_rest", "need_contents", "need_falls"]
def names1 : List PySem.Str := ["commit_writes", "commit_on", "_law_cup", "_law_roll", "_law_some", "_law_content", "_law_contents", "_law_near_contents", "_law_disk", "_law_rest", "_law_at", "_law_alike_blocks", "_law_written", "_law_all_written", "_law_commit", "_law_rising", "_law_up", "_law_falls", "_law_two_disks"]
def names : List PySem.Str := names0 ++ names1
abbrev R : PySem.W.OpenRow := PySem.W.OpenLaw.row PySem.Challenge.rw_deskgrove_k49_whole_commits_with_falls
abbrev hk : PySem.W.Hook := He.hookD 4 fa fn
def ob (s : PySem.W.SharedT) : He.AlD := He.obsDG 4 fa fn (HandSHeadRun.getT s)
theorem ob_eq (s : PySem.W.SharedT) : ob s = hk.obs s.abs := He.obsDG_eq (HandSHeadRun.getT_eq s)
theorem run_ (w : World) : HandSHeadRun.RunEq R (PySem.W.view R.prog [53]) hk ob 3000 names w := by
  intro os
  kernel_rfl
section
variable {K : PySem.W.Frag} {h : Heap} {mg : Str → Option Value}
theorem f_is_whole (X : K.In h) (N : h.Ns mainGlobals mg) (c : He.SaysD fa fn K) : ∃ (fa : Addr) (fd : FuncData), FunD K dt_is_whole.x dt_is_whole.x (defArgs dt_is_whole.st) (defBody dt_is_whole.st) (defScope dt_is_whole.st) [] [] fa fd ∧ mg dt_is_whole.x = some (.ref fa) ∧ Binds K fd dt_is_whole.P [] := by
  obtain ⟨fd, F⟩ := c.def_ 0 (d := dd dt_is_whole) rfl
  exact ⟨_, fd, F, He.glo_ok X N (c.fact 0 (f := .glo "is_whole") rfl), FunD.bindsN F fun _ _ _ _ _ _ us hl => match us, hl with | [_, _, _], _ => rfl⟩
theorem f_is_tuple_of (X : K.In h) (N : h.Ns mainGlobals mg) (c : He.SaysD fa fn K) : ∃ (fa : Addr) (fd : FuncData), FunD K dt_is_tuple_of.x dt_is_tuple_of.x (defArgs dt_is_tuple_of.st) (defBody dt_is_tuple_of.st) (defScope dt_is_tuple_of.st) [] [] fa fd ∧ mg dt_is_tuple_of.x = some (.ref fa) ∧ Binds K fd dt_is_tuple_of.P [] := by
  obtain ⟨fd, F⟩ := c.def_ 1 (d := dd dt_is_tuple_of) rfl
  exact ⟨_, fd, F, He.glo_ok X N (c.fact 1 (f := .glo "is_tuple_of") rfl), FunD.bindsN F fun _ _ _ _ _ _ us hl => match us, hl with | [_, _, _], _ => rfl⟩
theorem f_fits_content (X : K.In h) (N : h.Ns mainGlobals mg) (c : He.SaysD fa fn K) : ∃ (fa : Addr) (fd : FuncData), FunD K dt_fits_content.x dt_fits_content.x (defArgs dt_fits_content.st) (defBody dt_fits_content.st) (defScope dt_fits_content.st) [] [] fa fd ∧ mg dt_fits_content.x = some (.ref fa) ∧ Binds K fd dt_fits_content.P [] := by
  obtain ⟨fd, F⟩ := c.def_ 2 (d := dd dt_fits_content) rfl
  exact ⟨_, fd, F, He.glo_ok X N (c.fact 2 (f := .glo "fits_content") rfl), FunD.bindsN F fun _ _ _ _ _ _ us hl => match us, hl with | [_], _ => rfl⟩
theorem f_fits_contents (X : K.In h) (N : h.Ns mainGlobals mg) (c : He.SaysD fa fn K) : ∃ (fa : Addr) (fd : FuncData), FunD K dt_fits_contents.x dt_fits_contents.x (defArgs dt_fits_contents.st) (defBody dt_fits_contents.st) (defScope dt_fits_contents.st) [] [] fa fd ∧ mg dt_fits_contents.x = some (.ref fa) ∧ Binds K fd dt_fits_contents.P [] := by
  obtain ⟨fd, F⟩ := c.def_ 3 (d := dd dt_fits_contents) rfl
  exact ⟨_, fd, F, He.glo_ok X N (c.fact 3 (f := .glo "fits_contents") rfl), FunD.bindsN F fun _ _ _ _ _ _ us hl => match us, hl with | [_], _ => rfl⟩
theorem f_fits_slot (X : K.In h) (N : h.Ns mainGlobals mg) (c : He.SaysD fa fn K) : ∃ (fa : Addr) (fd : FuncData), FunD K dt_fits_slot.x dt_fits_slot.x (defArgs dt_fits_slot.st) (defBody dt_fits_slot.st) (defScope dt_fits_slot.st) [] [] fa fd ∧ mg dt_fits_slot.x = some (.ref fa) ∧ Binds K fd dt_fits_slot.P [] := by
  obtain ⟨fd, F⟩ := c.def_ 4 (d := dd dt_fits_slot) rfl
  exact ⟨_, fd, F, He.glo_ok X N (c.fact 4 (f := .glo "fits_slot") rfl), FunD.bindsN F fun _ _ _ _ _ _ us hl => match us, hl with | [_], _ => rfl⟩
theorem f_fits_mark (X : K.In h) (N : h.Ns mainGlobals mg) (c : He.SaysD fa fn K) : ∃ (fa : Addr) (fd : FuncData), FunD K dt_fits_mark.x dt_fits_mark.x (defArgs dt_fits_mark.st) (defBody dt_fits_mark.st) (defScope dt_fits_mark.st) [] [] fa fd ∧ mg dt_fits_mark.x = some (.ref fa) ∧ Binds K fd dt_fits_mark.P [] := by
  obtain ⟨fd, F⟩ := c.def_ 5 (d := dd dt_fits_mark) rfl
  exact ⟨_, fd, F, He.glo_ok X N (c.fact 5 (f := .glo "fits_mark") rfl), FunD.bindsN F fun _ _ _ _ _ _ us hl => match us, hl with | [_, _], _ => rfl⟩
theorem f_fits_disk (X : K.In h) (N : h.Ns mainGlobals mg) (c : He.SaysD fa fn K) : ∃ (fa : Addr) (fd : FuncData), FunD K dt_fits_disk.x dt_fits_disk.x (defArgs dt_fits_disk.st) (defBody dt_fits_disk.st) (defScope dt_fits_disk.st) [] [] fa fd ∧ mg dt_fits_disk.x = some (.ref fa) ∧ Binds K fd dt_fits_disk.P [] := by
  obtain ⟨fd, F⟩ := c.def_ 6 (d := dd dt_fits_disk) rfl
  exact ⟨_, fd, F, He.glo_ok X N (c.fact 6 (f := .glo "fits_disk") rfl), FunD.bindsN F fun _ _ _ _ _ _ us hl => match us, hl with | [_], _ => rfl⟩
theorem f_with_item (X : K.In h) (N : h.Ns mainGlobals mg) (c : He.SaysD fa fn K) : ∃ (fa : Addr) (fd : FuncData), FunD K dt_with_item.x dt_with_item.x (defArgs dt_with_item.st) (defBody dt_with_item.st) (defScope dt_with_item.st) [] [] fa fd ∧ mg dt_with_item.x = some (.ref fa) ∧ Binds K fd dt_with_item.P [] := by
  obtain ⟨fd, F⟩ := c.def_ 7 (d := dd dt_with_item) rfl
  exact ⟨_, fd, F, He.glo_ok X N (c.fact 7 (f := .glo "with_item") rfl), FunD.bindsN F fun _ _ _ _ _ _ us hl => match us, hl with | [_, _, _], _ => rfl⟩
theorem f_written_to (X : K.In h) (N : h.Ns mainGlobals mg) (c : He.SaysD fa fn K) : ∃ (fa : Addr) (fd : FuncData), FunD K dt_written_to.x dt_written_to.x (defArgs dt_written_to.st) (defBody dt_written_to.st) (defScope dt_written_to.st) [] [] fa fd ∧ mg dt_written_to.x = some (.ref fa) ∧ Binds K fd dt_written_to.P [] := by
  obtain ⟨fd, F⟩ := c.def_ 8 (d := dd dt_written_to) rfl
  exact ⟨_, fd, F, He.glo_ok X N (c.fact 8 (f := .glo "written_to") rfl), FunD.bindsN F fun _ _ _ _ _ _ us hl => match us, hl with | [_, _], _ => rfl⟩
theorem f_all_written (X : K.In h) (N : h.Ns mainGlobals mg) (c : He.SaysD fa fn K) : ∃ (fa : Addr) (fd : FuncData), FunD K dt_all_written.x dt_all_written.x (defArgs dt_all_written.st) (defBody dt_all_written.st) (defScope dt_all_written.st) [] [] fa fd ∧ mg dt_all_written.x = some (.ref fa) ∧ Binds K fd dt_all_written.P [] := by
  obtain ⟨fd, F⟩ := c.def_ 9 (d := dd dt_all_written) rfl
  exact ⟨_, fd, F, He.glo_ok X N (c.fact 9 (f := .glo "all_written") rfl), FunD.bindsN F fun _ _ _ _ _ _ us hl => match us, hl with | [_, _], _ => rfl⟩
theorem f_content_at (X : K.In h) (N : h.Ns mainGlobals mg) (c : He.SaysD fa fn K) : ∃ (fa : Addr) (fd : FuncData), FunD K dt_content_at.x dt_content_at.x (defArgs dt_content_at.st) (defBody dt_content_at.st) (defScope dt_content_at.st) [] [] fa fd ∧ mg dt_content_at.x = some (.ref fa) ∧ Binds K fd dt_content_at.P [] := by
  obtain ⟨fd, F⟩ := c.def_ 10 (d := dd dt_content_at) rfl
  exact ⟨_, fd, F, He.glo_ok X N (c.fact 10 (f := .glo "content_at") rfl), FunD.bindsN F fun _ _ _ _ _ _ us hl => match us, hl with | [_, _], _ => rfl⟩
theorem f_turned_in (X : K.In h) (N : h.Ns mainGlobals mg) (c : He.SaysD fa fn K) : ∃ (fa : Addr) (fd : FuncData), FunD K dt_turned_in.x dt_turned_in.x (defArgs dt_turned_in.st) (defBody dt_turned_in.st) (defScope dt_turned_in.st) [] [] fa fd ∧ mg dt_turned_in.x = some (.ref fa) ∧ Binds K fd dt_turned_in.P [] := by
  obtain ⟨fd, F⟩ := c.def_ 11 (d := dd dt_turned_in) rfl
  exact ⟨_, fd, F, He.glo_ok X N (c.fact 11 (f := .glo "turned_in") rfl), FunD.bindsN F fun _ _ _ _ _ _ us hl => match us, hl with | [_, _], _ => rfl⟩
theorem f_writes_for (X : K.In h) (N : h.Ns mainGlobals mg) (c : He.SaysD fa fn K) : ∃ (fa : Addr) (fd : FuncData), FunD K dt_writes_for.x dt_writes_for.x (defArgs dt_writes_for.st) (defBody dt_writes_for.st) (defScope dt_writes_for.st) [] [] fa fd ∧ mg dt_writes_for.x = some (.ref fa) ∧ Binds K fd dt_writes_for.P [] := by
  obtain ⟨fd, F⟩ := c.def_ 12 (d := dd dt_writes_for) rfl
  exact ⟨_, fd, F, He.glo_ok X N (c.fact 12 (f := .glo "writes_for") rfl), FunD.bindsN F fun _ _ _ _ _ _ us hl => match us, hl with | [_, _], _ => rfl⟩
theorem f_rising_for (X : K.In h) (N : h.Ns mainGlobals mg) (c : He.SaysD fa fn K) : ∃ (fa : Addr) (fd : FuncData), FunD K dt_rising_for.x dt_rising_for.x (defArgs dt_rising_for.st) (defBody dt_rising_for.st) (defScope dt_rising_for.st) [] [] fa fd ∧ mg dt_rising_for.x = some (.ref fa) ∧ Binds K fd dt_rising_for.P [] := by
  obtain ⟨fd, F⟩ := c.def_ 13 (d := dd dt_rising_for) rfl
  exact ⟨_, fd, F, He.glo_ok X N (c.fact 13 (f := .glo "rising_for") rfl), FunD.bindsN F fun _ _ _ _ _ _ us hl => match us, hl with | [_], _ => rfl⟩
theorem f_risen (X : K.In h) (N : h.Ns mainGlobals mg) (c : He.SaysD fa fn K) : ∃ (fa : Addr) (fd : FuncData), FunD K dt_risen.x dt_risen.x (defArgs dt_risen.st) (defBody dt_risen.st) (defScope dt_risen.st) [] [] fa fd ∧ mg dt_risen.x = some (.ref fa) ∧ Binds K fd dt_risen.P [] := by
  obtain ⟨fd, F⟩ := c.def_ 14 (d := dd dt_risen) rfl
  exact ⟨_, fd, F, He.glo_ok X N (c.fact 14 (f := .glo "risen") rfl), FunD.bindsN F fun _ _ _ _ _ _ us hl => match us, hl with | [_, _], _ => rfl⟩
theorem f_committed_on (X : K.In h) (N : h.Ns mainGlobals mg) (c : He.SaysD fa fn K) : ∃ (fa : Addr) (fd : FuncData), FunD K dt_committed_on.x dt_committed_on.x (defArgs dt_committed_on.st) (defBody dt_committed_on.st) (defScope dt_committed_on.st) [] [] fa fd ∧ mg dt_committed_on.x = some (.ref fa) ∧ Binds K fd dt_committed_on.P [] := by
  obtain ⟨fd, F⟩ := c.def_ 15 (d := dd dt_committed_on) rfl
  exact ⟨_, fd, F, He.glo_ok X N (c.fact 15 (f := .glo "committed_on") rfl), FunD.bindsN F fun _ _ _ _ _ _ us hl => match us, hl with | [_, _, _], _ => rfl⟩
theorem f_fits_falls (X : K.In h) (N : h.Ns mainGlobals mg) (c : He.SaysD fa fn K) : ∃ (fa : Addr) (fd : FuncData), FunD K dt_fits_falls.x dt_fits_falls.x (defArgs dt_fits_falls.st) (defBody dt_fits_falls.st) (defScope dt_fits_falls.st) [] [] fa fd ∧ mg dt_fits_falls.x = some (.ref fa) ∧ Binds K fd dt_fits_falls.P [] := by
  obtain ⟨fd, F⟩ := c.def_ 16 (d := dd dt_fits_falls) rfl
  exact ⟨_, fd, F, He.glo_ok X N (c.fact 16 (f := .glo "fits_falls") rfl), FunD.bindsN F fun _ _ _ _ _ _ us hl => match us, hl with | [_], _ => rfl⟩
theorem f_need_disk (X : K.In h) (N : h.Ns mainGlobals mg) (c : He.SaysD fa fn K) : ∃ (fa : Addr) (fd : FuncData), FunD K dt_need_disk.x dt_need_disk.x (defArgs dt_need_disk.st) (defBody dt_need_disk.st) (defScope dt_need_disk.st) [] [] fa fd ∧ mg dt_need_disk.x = some (.ref fa) ∧ Binds K fd dt_need_disk.P [] := by
  obtain ⟨fd, F⟩ := c.def_ 17 (d := dd dt_need_disk) rfl
  exact ⟨_, fd, F, He.glo_ok X N (c.fact 17 (f := .glo "need_disk") rfl), FunD.bindsN F fun _ _ _ _ _ _ us hl => match us, hl with | [_], _ => rfl⟩
theorem f_need_rest (X : K.In h) (N : h.Ns mainGlobals mg) (c : He.SaysD fa fn K) : ∃ (fa : Addr) (fd : FuncData), FunD K dt_need_rest.x dt_need_rest.x (defArgs dt_need_rest.st) (defBody dt_need_rest.st) (defScope dt_need_rest.st) [] [] fa fd ∧ mg dt_need_rest.x = some (.ref fa) ∧ Binds K fd dt_need_rest.P [] := by
  obtain ⟨fd, F⟩ := c.def_ 18 (d := dd dt_need_rest) rfl
  exact ⟨_, fd, F, He.glo_ok X N (c.fact 18 (f := .glo "need_rest") rfl), FunD.bindsN F fun _ _ _ _ _ _ us hl => match us, hl with | [_], _ => rfl⟩
theorem f_need_contents (X : K.In h) (N : h.Ns mainGlobals mg) (c : He.SaysD fa fn K) : ∃ (fa : Addr) (fd : FuncData), FunD K dt_need_contents.x dt_need_contents.x (defArgs dt_need_contents.st) (defBody dt_need_contents.st) (defScope dt_need_contents.st) [] [] fa fd ∧ mg dt_need_contents.x = some (.ref fa) ∧ Binds K fd dt_need_contents.P [] := by
  obtain ⟨fd, F⟩ := c.def_ 19 (d := dd dt_need_contents) rfl
  exact ⟨_, fd, F, He.glo_ok X N (c.fact 19 (f := .glo "need_contents") rfl), FunD.bindsN F fun _ _ _ _ _ _ us hl => match us, hl with | [_], _ => rfl⟩
theorem f_need_falls (X : K.In h) (N : h.Ns mainGlobals mg) (c : He.SaysD fa fn K) : ∃ (fa : Addr) (fd : FuncData), FunD K dt_need_falls.x dt_need_falls.x (defArgs dt_need_falls.st) (defBody dt_need_falls.st) (defScope dt_need_falls.st) [] [] fa fd ∧ mg dt_need_falls.x = some (.ref fa) ∧ Binds K fd dt_need_falls.P [] := by
  obtain ⟨fd, F⟩ := c.def_ 20 (d := dd dt_need_falls) rfl
  exact ⟨_, fd, F, He.glo_ok X N (c.fact 20 (f := .glo "need_falls") rfl), FunD.bindsN F fun _ _ _ _ _ _ us hl => match us, hl with | [_], _ => rfl⟩
theorem f_commit_writes (X : K.In h) (N : h.Ns mainGlobals mg) (c : He.SaysD fa fn K) : ∃ (fa : Addr) (fd : FuncData), FunD K dt_commit_writes.x dt_commit_writes.x (defArgs dt_commit_writes.st) (defBody dt_commit_writes.st) (defScope dt_commit_writes.st) [] [] fa fd ∧ mg dt_commit_writes.x = some (.ref fa) ∧ Binds K fd dt_commit_writes.P [] := by
  obtain ⟨fd, F⟩ := c.def_ 21 (d := dd dt_commit_writes) rfl
  exact ⟨_, fd, F, He.glo_ok X N (c.fact 21 (f := .glo "commit_writes") rfl), FunD.bindsN F fun _ _ _ _ _ _ us hl => match us, hl with | [_, _], _ => rfl⟩
theorem f_commit_on (X : K.In h) (N : h.Ns mainGlobals mg) (c : He.SaysD fa fn K) : ∃ (fa : Addr) (fd : FuncData), FunD K dt_commit_on.x dt_commit_on.x (defArgs dt_commit_on.st) (defBody dt_commit_on.st) (defScope dt_commit_on.st) [] [] fa fd ∧ mg dt_commit_on.x = some (.ref fa) ∧ Binds K fd dt_commit_on.P [] := by
  obtain ⟨fd, F⟩ := c.def_ 22 (d := dd dt_commit_on) rfl
  exact ⟨_, fd, F, He.glo_ok X N (c.fact 22 (f := .glo "commit_on") rfl), FunD.bindsN F fun _ _ _ _ _ _ us hl => match us, hl with | [_, _, _], _ => rfl⟩
theorem f__law_cup (X : K.In h) (N : h.Ns mainGlobals mg) (c : He.SaysD fa fn K) : ∃ (fa : Addr) (fd : FuncData), FunD K dt__law_cup.x dt__law_cup.x (defArgs dt__law_cup.st) (defBody dt__law_cup.st) (defScope dt__law_cup.st) [] [] fa fd ∧ mg dt__law_cup.x = some (.ref fa) ∧ Binds K fd dt__law_cup.P [] := by
  obtain ⟨fd, F⟩ := c.def_ 23 (d := dd dt__law_cup) rfl
  exact ⟨_, fd, F, He.glo_ok X N (c.fact 23 (f := .glo "_law_cup") rfl), FunD.bindsN F fun _ _ _ _ _ _ us hl => match us, hl with | [_], _ => rfl⟩
theorem f__law_roll (X : K.In h) (N : h.Ns mainGlobals mg) (c : He.SaysD fa fn K) : ∃ (fa : Addr) (fd : FuncData), FunD K dt__law_roll.x dt__law_roll.x (defArgs dt__law_roll.st) (defBody dt__law_roll.st) (defScope dt__law_roll.st) [] [] fa fd ∧ mg dt__law_roll.x = some (.ref fa) ∧ Binds K fd dt__law_roll.P [] := by
  obtain ⟨fd, F⟩ := c.def_ 24 (d := dd dt__law_roll) rfl
  exact ⟨_, fd, F, He.glo_ok X N (c.fact 24 (f := .glo "_law_roll") rfl), FunD.bindsN F fun _ _ _ _ _ _ us hl => match us, hl with | [_, _], _ => rfl⟩
theorem f__law_some (X : K.In h) (N : h.Ns mainGlobals mg) (c : He.SaysD fa fn K) : ∃ (fa : Addr) (fd : FuncData), FunD K dt__law_some.x dt__law_some.x (defArgs dt__law_some.st) (defBody dt__law_some.st) (defScope dt__law_some.st) [] [] fa fd ∧ mg dt__law_some.x = some (.ref fa) ∧ Binds K fd dt__law_some.P [] := by
  obtain ⟨fd, F⟩ := c.def_ 25 (d := dd dt__law_some) rfl
  exact ⟨_, fd, F, He.glo_ok X N (c.fact 25 (f := .glo "_law_some") rfl), FunD.bindsN F fun _ _ _ _ _ _ us hl => match us, hl with | [_, _], _ => rfl⟩
theorem f__law_content (X : K.In h) (N : h.Ns mainGlobals mg) (c : He.SaysD fa fn K) : ∃ (fa : Addr) (fd : FuncData), FunD K dt__law_content.x dt__law_content.x (defArgs dt__law_content.st) (defBody dt__law_content.st) (defScope dt__law_content.st) [] [] fa fd ∧ mg dt__law_content.x = some (.ref fa) ∧ Binds K fd dt__law_content.P [] := by
  obtain ⟨fd, F⟩ := c.def_ 26 (d := dd dt__law_content) rfl
  exact ⟨_, fd, F, He.glo_ok X N (c.fact 26 (f := .glo "_law_content") rfl), FunD.bindsN F fun _ _ _ _ _ _ us hl => match us, hl with | [_], _ => rfl⟩
theorem f__law_contents (X : K.In h) (N : h.Ns mainGlobals mg) (c : He.SaysD fa fn K) : ∃ (fa : Addr) (fd : FuncData), FunD K dt__law_contents.x dt__law_contents.x (defArgs dt__law_contents.st) (defBody dt__law_contents.st) (defScope dt__law_contents.st) [] [] fa fd ∧ mg dt__law_contents.x = some (.ref fa) ∧ Binds K fd dt__law_contents.P [] := by
  obtain ⟨fd, F⟩ := c.def_ 27 (d := dd dt__law_contents) rfl
  exact ⟨_, fd, F, He.glo_ok X N (c.fact 27 (f := .glo "_law_contents") rfl), FunD.bindsN F fun _ _ _ _ _ _ us hl => match us, hl with | [_, _], _ => rfl⟩
theorem f__law_near_contents (X : K.In h) (N : h.Ns mainGlobals mg) (c : He.SaysD fa fn K) : ∃ (fa : Addr) (fd : FuncData), FunD K dt__law_near_contents.x dt__law_near_contents.x (defArgs dt__law_near_contents.st) (defBody dt__law_near_contents.st) (defScope dt__law_near_contents.st) [] [] fa fd ∧ mg dt__law_near_contents.x = some (.ref fa) ∧ Binds K fd dt__law_near_contents.P [] := by
  obtain ⟨fd, F⟩ := c.def_ 28 (d := dd dt__law_near_contents) rfl
  exact ⟨_, fd, F, He.glo_ok X N (c.fact 28 (f := .glo "_law_near_contents") rfl), FunD.bindsN F fun _ _ _ _ _ _ us hl => match us, hl with | [_, _], _ => rfl⟩
theorem f__law_disk (X : K.In h) (N : h.Ns mainGlobals mg) (c : He.SaysD fa fn K) : ∃ (fa : Addr) (fd : FuncData), FunD K dt__law_disk.x dt__law_disk.x (defArgs dt__law_disk.st) (defBody dt__law_disk.st) (defScope dt__law_disk.st) [] [] fa fd ∧ mg dt__law_disk.x = some (.ref fa) ∧ Binds K fd dt__law_disk.P [] := by
  obtain ⟨fd, F⟩ := c.def_ 29 (d := dd dt__law_disk) rfl
  exact ⟨_, fd, F, He.glo_ok X N (c.fact 29 (f := .glo "_law_disk") rfl), FunD.bindsN F fun _ _ _ _ _ _ us hl => match us, hl with | [_], _ => rfl⟩
theorem f__law_rest (X : K.In h) (N : h.Ns mainGlobals mg) (c : He.SaysD fa fn K) : ∃ (fa : Addr) (fd : FuncData), FunD K dt__law_rest.x dt__law_rest.x (defArgs dt__law_rest.st) (defBody dt__law_rest.st) (defScope dt__law_rest.st) [] [] fa fd ∧ mg dt__law_rest.x = some (.ref fa) ∧ Binds K fd dt__law_rest.P [] := by
  obtain ⟨fd, F⟩ := c.def_ 30 (d := dd dt__law_rest) rfl
  exact ⟨_, fd, F, He.glo_ok X N (c.fact 30 (f := .glo "_law_rest") rfl), FunD.bindsN F fun _ _ _ _ _ _ us hl => match us, hl with | [_], _ => rfl⟩
theorem f__law_at (X : K.In h) (N : h.Ns mainGlobals mg) (c : He.SaysD fa fn K) : ∃ (fa : Addr) (fd : FuncData), FunD K dt__law_at.x dt__law_at.x (defArgs dt__law_at.st) (defBody dt__law_at.st) (defScope dt__law_at.st) [] [] fa fd ∧ mg dt__law_at.x = some (.ref fa) ∧ Binds K fd dt__law_at.P [] := by
  obtain ⟨fd, F⟩ := c.def_ 31 (d := dd dt__law_at) rfl
  exact ⟨_, fd, F, He.glo_ok X N (c.fact 31 (f := .glo "_law_at") rfl), FunD.bindsN F fun _ _ _ _ _ _ us hl => match us, hl with | [_, _], _ => rfl⟩
theorem f__law_alike_blocks (X : K.In h) (N : h.Ns mainGlobals mg) (c : He.SaysD fa fn K) : ∃ (fa : Addr) (fd : FuncData), FunD K dt__law_alike_blocks.x dt__law_alike_blocks.x (defArgs dt__law_alike_blocks.st) (defBody dt__law_alike_blocks.st) (defScope dt__law_alike_blocks.st) [] [] fa fd ∧ mg dt__law_alike_blocks.x = some (.ref fa) ∧ Binds K fd dt__law_alike_blocks.P [] := by
  obtain ⟨fd, F⟩ := c.def_ 32 (d := dd dt__law_alike_blocks) rfl
  exact ⟨_, fd, F, He.glo_ok X N (c.fact 32 (f := .glo "_law_alike_blocks") rfl), FunD.bindsN F fun _ _ _ _ _ _ us hl => match us, hl with | [_, _], _ => rfl⟩
theorem f__law_written (X : K.In h) (N : h.Ns mainGlobals mg) (c : He.SaysD fa fn K) : ∃ (fa : Addr) (fd : FuncData), FunD K dt__law_written.x dt__law_written.x (defArgs dt__law_written.st) (defBody dt__law_written.st) (defScope dt__law_written.st) [] [] fa fd ∧ mg dt__law_written.x = some (.ref fa) ∧ Binds K fd dt__law_written.P [] := by
  obtain ⟨fd, F⟩ := c.def_ 33 (d := dd dt__law_written) rfl
  exact ⟨_, fd, F, He.glo_ok X N (c.fact 33 (f := .glo "_law_written") rfl), FunD.bindsN F fun _ _ _ _ _ _ us hl => match us, hl with | [_, _], _ => rfl⟩
theorem f__law_all_written (X : K.In h) (N : h.Ns mainGlobals mg) (c : He.SaysD fa fn K) : ∃ (fa : Addr) (fd : FuncData), FunD K dt__law_all_written.x dt__law_all_written.x (defArgs dt__law_all_written.st) (defBody dt__law_all_written.st) (defScope dt__law_all_written.st) [] [] fa fd ∧ mg dt__law_all_written.x = some (.ref fa) ∧ Binds K fd dt__law_all_written.P [] := by
  obtain ⟨fd, F⟩ := c.def_ 34 (d := dd dt__law_all_written) rfl
  exact ⟨_, fd, F, He.glo_ok X N (c.fact 34 (f := .glo "_law_all_written") rfl), FunD.bindsN F fun _ _ _ _ _ _ us hl => match us, hl with | [_, _], _ => rfl⟩
theorem f__law_commit (X : K.In h) (N : h.Ns mainGlobals mg) (c : He.SaysD fa fn K) : ∃ (fa : Addr) (fd : FuncData), FunD K dt__law_commit.x dt__law_commit.x (defArgs dt__law_commit.st) (defBody dt__law_commit.st) (defScope dt__law_commit.st) [] [] fa fd ∧ mg dt__law_commit.x = some (.ref fa) ∧ Binds K fd dt__law_commit.P [] := by
  obtain ⟨fd, F⟩ := c.def_ 35 (d := dd dt__law_commit) rfl
  exact ⟨_, fd, F, He.glo_ok X N (c.fact 35 (f := .glo "_law_commit") rfl), FunD.bindsN F fun _ _ _ _ _ _ us hl => match us, hl with | [_, _], _ => rfl⟩
theorem f__law_rising (X : K.In h) (N : h.Ns mainGlobals mg) (c : He.SaysD fa fn K) : ∃ (fa : Addr) (fd : FuncData), FunD K dt__law_rising.x dt__law_rising.x (defArgs dt__law_rising.st) (defBody dt__law_rising.st) (defScope dt__law_rising.st) [] [] fa fd ∧ mg dt__law_rising.x = some (.ref fa) ∧ Binds K fd dt__law_rising.P [] := by
  obtain ⟨fd, F⟩ := c.def_ 36 (d := dd dt__law_rising) rfl
  exact ⟨_, fd, F, He.glo_ok X N (c.fact 36 (f := .glo "_law_rising") rfl), FunD.bindsN F fun _ _ _ _ _ _ us hl => match us, hl with | [_], _ => rfl⟩
theorem f__law_up (X : K.In h) (N : h.Ns mainGlobals mg) (c : He.SaysD fa fn K) : ∃ (fa : Addr) (fd : FuncData), FunD K dt__law_up.x dt__law_up.x (defArgs dt__law_up.st) (defBody dt__law_up.st) (defScope dt__law_up.st) [] [] fa fd ∧ mg dt__law_up.x = some (.ref fa) ∧ Binds K fd dt__law_up.P [] := by
  obtain ⟨fd, F⟩ := c.def_ 37 (d := dd dt__law_up) rfl
  exact ⟨_, fd, F, He.glo_ok X N (c.fact 37 (f := .glo "_law_up") rfl), FunD.bindsN F fun _ _ _ _ _ _ us hl => match us, hl with | [_, _], _ => rfl⟩
theorem f__law_falls (X : K.In h) (N : h.Ns mainGlobals mg) (c : He.SaysD fa fn K) : ∃ (fa : Addr) (fd : FuncData), FunD K dt__law_falls.x dt__law_falls.x (defArgs dt__law_falls.st) (defBody dt__law_falls.st) (defScope dt__law_falls.st) [] [] fa fd ∧ mg dt__law_falls.x = some (.ref fa) ∧ Binds K fd dt__law_falls.P [] := by
  obtain ⟨fd, F⟩ := c.def_ 38 (d := dd dt__law_falls) rfl
  exact ⟨_, fd, F, He.glo_ok X N (c.fact 38 (f := .glo "_law_falls") rfl), FunD.bindsN F fun _ _ _ _ _ _ us hl => match us, hl with | [_, _], _ => rfl⟩
theorem f__law_two_disks (X : K.In h) (N : h.Ns mainGlobals mg) (c : He.SaysD fa fn K) : ∃ (fa : Addr) (fd : FuncData), FunD K dt__law_two_disks.x dt__law_two_disks.x (defArgs dt__law_two_disks.st) (defBody dt__law_two_disks.st) (defScope dt__law_two_disks.st) [] [] fa fd ∧ mg dt__law_two_disks.x = some (.ref fa) ∧ Binds K fd dt__law_two_disks.P [] := by
  obtain ⟨fd, F⟩ := c.def_ 39 (d := dd dt__law_two_disks) rfl
  exact ⟨_, fd, F, He.glo_ok X N (c.fact 39 (f := .glo "_law_two_disks") rfl), FunD.bindsN F fun _ _ _ _ _ _ us hl => match us, hl with | [], _ => rfl⟩
theorem f_law (X : K.In h) (N : h.Ns mainGlobals mg) (c : He.SaysD fa fn K) : ∃ (fa : Addr) (fd : FuncData), FunD K dt_law.x dt_law.x (defArgs dt_law.st) (defBody dt_law.st) (defScope dt_law.st) [] [] fa fd ∧ mg dt_law.x = some (.ref fa) ∧ Binds K fd dt_law.P [] := by
  obtain ⟨fd, F⟩ := c.def_ 40 (d := dd dt_law) rfl
  exact ⟨_, fd, F, He.glo_ok X N (c.fact 40 (f := .glo "law") rfl), FunD.bindsN F fun _ _ _ _ _ _ us hl => match us, hl with | [_], _ => rfl⟩
theorem mod (X : K.In h) (N : h.Ns mainGlobals mg) (c : He.SaysD fa fn K) : ModOk K mg ts gls G where
  blt := fun x hx => by
    simp only [bltNames, List.mem_cons, List.not_mem_nil, or_false] at hx
    rcases hx with rfl | rfl | rfl | rfl | rfl | rfl | rfl | rfl | rfl | rfl | rfl | rfl | rfl
    · exact He.free_ok X N (c.fact 41 (f := .free "len") rfl)
    · exact He.free_ok X N (c.fact 42 (f := .free "abs") rfl)
    · exact He.free_ok X N (c.fact 43 (f := .free "max") rfl)
    · exact He.free_ok X N (c.fact 44 (f := .free "all") rfl)
    · exact He.free_ok X N (c.fact 45 (f := .free "tuple") rfl)
    · exact He.free_ok X N (c.fact 46 (f := .free "list") rfl)
    · exact He.free_ok X N (c.fact 47 (f := .free "int") rfl)
    · exact He.free_ok X N (c.fact 48 (f := .free "range") rfl)
    · exact He.free_ok X N (c.fact 49 (f := .free "isinstance") rfl)
    · exact He.free_ok X N (c.fact 50 (f := .free "enumerate") rfl)
    · exact He.free_ok X N (c.fact 51 (f := .free "bool") rfl)
    · exact He.free_ok X N (c.fact 52 (f := .free "str") rfl)
    · exact He.free_ok X N (c.fact 53 (f := .free "repr") rfl)
  glo := fun g x d e1 e2 => by
    match g, e1, e2 with
    | 0, e1, e2 =>
      cases Option.some.inj e1
      cases Option.some.inj e2
      exact ⟨rfl, glo_int (He.int_ok X N (c.fact 54 (f := .int "OCTETS" 512) rfl))⟩
    | 1, e1, e2 =>
      cases Option.some.inj e1
      cases Option.some.inj e2
      exact ⟨rfl, glo_int (He.int_ok X N (c.fact 55 (f := .int "BLOCKS" 1000) rfl))⟩
    | 2, e1, e2 =>
      cases Option.some.inj e1
      cases Option.some.inj e2
      exact ⟨rfl, glo_int (He.int_ok X N (c.fact 56 (f := .int "SLOTS" 1000) rfl))⟩
    | 3, e1, e2 =>
      cases Option.some.inj e1
      cases Option.some.inj e2
      exact ⟨rfl, glo_int (He.int_ok X N (c.fact 57 (f := .int "FALLS" 10) rfl))⟩
    | 4, e1, e2 =>
      cases Option.some.inj e1
      cases Option.some.inj e2
      exact ⟨rfl, glo_int (He.int_ok X N (c.fact 58 (f := .int "FALL" 10000) rfl))⟩
    | n + 5, e1, _ => exact nomatch e1
  fns := fun f t e => by
    match f, e with
    | 0, e =>
      cases Option.some.inj e
      exact f_is_whole X N c
    | 1, e =>
      cases Option.some.inj e
      exact f_is_tuple_of X N c
    | 2, e =>
      cases Option.some.inj e
      exact f_fits_content X N c
    | 3, e =>
      cases Option.some.inj e
      exact f_fits_contents X N c
    | 4, e =>
      cases Option.some.inj e
      exact f_fits_slot X N c
    | 5, e =>
      cases Option.some.inj e
      exact f_fits_mark X N c
    | 6, e =>
      cases Option.some.inj e
      exact f_fits_disk X N c
    | 7, e =>
      cases Option.some.inj e
      exact f_with_item X N c
    | 8, e =>
      cases Option.some.inj e
      exact f_written_to X N c
    | 9, e =>
      cases Option.some.inj e
      exact f_all_written X N c
    | 10, e =>
      cases Option.some.inj e
      exact f_content_at X N c
    | 11, e =>
      cases Option.some.inj e
      exact f_turned_in X N c
    | 12, e =>
      cases Option.some.inj e
      exact f_writes_for X N c
    | 13, e =>
      cases Option.some.inj e
      exact f_rising_for X N c
    | 14, e =>
      cases Option.some.inj e
      exact f_risen X N c
    | 15, e =>
      cases Option.some.inj e
      exact f_committed_on X N c
    | 16, e =>
      cases Option.some.inj e
      exact f_fits_falls X N c
    | 17, e =>
      cases Option.some.inj e
      exact f_need_disk X N c
    | 18, e =>
      cases Option.some.inj e
      exact f_need_rest X N c
    | 19, e =>
      cases Option.some.inj e
      exact f_need_contents X N c
    | 20, e =>
      cases Option.some.inj e
      exact f_need_falls X N c
    | 21, e =>
      cases Option.some.inj e
      exact f_commit_writes X N c
    | 22, e =>
      cases Option.some.inj e
      exact f_commit_on X N c
    | 23, e =>
      cases Option.some.inj e
      exact f__law_cup X N c
    | 24, e =>
      cases Option.some.inj e
      exact f__law_roll X N c
    | 25, e =>
      cases Option.some.inj e
      exact f__law_some X N c
    | 26, e =>
      cases Option.some.inj e
      exact f__law_content X N c
    | 27, e =>
      cases Option.some.inj e
      exact f__law_contents X N c
    | 28, e =>
      cases Option.some.inj e
      exact f__law_near_contents X N c
    | 29, e =>
      cases Option.some.inj e
      exact f__law_disk X N c
    | 30, e =>
      cases Option.some.inj e
      exact f__law_rest X N c
    | 31, e =>
      cases Option.some.inj e
      exact f__law_at X N c
    | 32, e =>
      cases Option.some.inj e
      exact f__law_alike_blocks X N c
    | 33, e =>
      cases Option.some.inj e
      exact f__law_written X N c
    | 34, e =>
      cases Option.some.inj e
      exact f__law_all_written X N c
    | 35, e =>
      cases Option.some.inj e
      exact f__law_commit X N c
    | 36, e =>
      cases Option.some.inj e
      exact f__law_rising X N c
    | 37, e =>
      cases Option.some.inj e
      exact f__law_up X N c
    | 38, e =>
      cases Option.some.inj e
      exact f__law_falls X N c
    | 39, e =>
      cases Option.some.inj e
      exact f__law_two_disks X N c
    | 40, e =>
      cases Option.some.inj e
      exact f_law X N c
    | n + 41, e => exact nomatch e
end
end Dk.K49

set_option autoImplicit false
set_option linter.all false
/-! DkMath: the evaluator as rules for rewriting, and what loops and draws come to. Own work. -/
namespace Dk
open PySem

@[simp] theorem s_evE_1 : type_of% @evE.eq_1 := @evE.eq_1
@[simp] theorem s_evE_2 : type_of% @evE.eq_2 := @evE.eq_2
@[simp] theorem s_evE_3 : type_of% @evE.eq_3 := @evE.eq_3
@[simp] theorem s_evE_4 : type_of% @evE.eq_4 := @evE.eq_4
@[simp] theorem s_evE_5 : type_of% @evE.eq_5 := @evE.eq_5
@[simp] theorem s_evE_6 : type_of% @evE.eq_6 := @evE.eq_6
@[simp] theorem s_evE_7 : type_of% @evE.eq_7 := @evE.eq_7
@[simp] theorem s_evE_8 : type_of% @evE.eq_8 := @evE.eq_8
@[simp] theorem s_evE_9 : type_of% @evE.eq_9 := @evE.eq_9
@[simp] theorem s_evE_10 : type_of% @evE.eq_10 := @evE.eq_10
@[simp] theorem s_evE_11 : type_of% @evE.eq_11 := @evE.eq_11
@[simp] theorem s_evE_12 : type_of% @evE.eq_12 := @evE.eq_12
@[simp] theorem s_evE_13 : type_of% @evE.eq_13 := @evE.eq_13
@[simp] theorem s_evE_14 : type_of% @evE.eq_14 := @evE.eq_14
@[simp] theorem s_evE_15 : type_of% @evE.eq_15 := @evE.eq_15
@[simp] theorem s_evE_16 : type_of% @evE.eq_16 := @evE.eq_16
@[simp] theorem s_evE_17 : type_of% @evE.eq_17 := @evE.eq_17
@[simp] theorem s_evE_18 : type_of% @evE.eq_18 := @evE.eq_18
@[simp] theorem s_evA_1 : type_of% @evA.eq_1 := @evA.eq_1
@[simp] theorem s_evA_2 : type_of% @evA.eq_2 := @evA.eq_2
@[simp] theorem s_evI_1 : type_of% @evI.eq_1 := @evI.eq_1
@[simp] theorem s_evI_2 : type_of% @evI.eq_2 := @evI.eq_2
@[simp] theorem s_evI_3 : type_of% @evI.eq_3 := @evI.eq_3
@[simp] theorem s_evI_4 : type_of% @evI.eq_4 := @evI.eq_4
@[simp] theorem s_evO_1 : type_of% @evO.eq_1 := @evO.eq_1
@[simp] theorem s_evO_2 : type_of% @evO.eq_2 := @evO.eq_2
@[simp] theorem s_evC_1 : type_of% @evC.eq_1 := @evC.eq_1
@[simp] theorem s_evC_2 : type_of% @evC.eq_2 := @evC.eq_2
@[simp] theorem s_tstE_1 : type_of% @tstE.eq_1 := @tstE.eq_1
@[simp] theorem s_exS_1 : type_of% @exS.eq_1 := @exS.eq_1
@[simp] theorem s_exS_2 : type_of% @exS.eq_2 := @exS.eq_2
@[simp] theorem s_exS_3 : type_of% @exS.eq_3 := @exS.eq_3
@[simp] theorem s_exS_4 : type_of% @exS.eq_4 := @exS.eq_4
@[simp] theorem s_exS_5 : type_of% @exS.eq_5 := @exS.eq_5
@[simp] theorem s_exS_6 : type_of% @exS.eq_6 := @exS.eq_6
@[simp] theorem s_exS_7 : type_of% @exS.eq_7 := @exS.eq_7
@[simp] theorem s_exS_8 : type_of% @exS.eq_8 := @exS.eq_8
@[simp] theorem s_exS_9 : type_of% @exS.eq_9 := @exS.eq_9
@[simp] theorem s_exS_12 : type_of% @exS.eq_12 := @exS.eq_12
@[simp] theorem s_exS_13 : type_of% @exS.eq_13 := @exS.eq_13
@[simp] theorem s_exS_14 : type_of% @exS.eq_14 := @exS.eq_14
@[simp] theorem s_exS_15 : type_of% @exS.eq_15 := @exS.eq_15
@[simp] theorem s_fin_1 : type_of% @fin.eq_1 := @fin.eq_1
@[simp] theorem s_fin_2 : type_of% @fin.eq_2 := @fin.eq_2
@[simp] theorem s_bindT_1 : type_of% @bindT.eq_1 := @bindT.eq_1
@[simp] theorem s_bindT_2 : type_of% @bindT.eq_2 := @bindT.eq_2
@[simp] theorem s_bindTs_1 : type_of% @bindTs.eq_1 := @bindTs.eq_1
@[simp] theorem s_bindTs_2 : type_of% @bindTs.eq_2 := @bindTs.eq_2
@[simp] theorem s_binD_1 : type_of% @binD.eq_1 := @binD.eq_1
@[simp] theorem s_binD_2 : type_of% @binD.eq_2 := @binD.eq_2
@[simp] theorem s_binD_3 : type_of% @binD.eq_3 := @binD.eq_3
@[simp] theorem s_binD_4 : type_of% @binD.eq_4 := @binD.eq_4
@[simp] theorem s_binD_5 : type_of% @binD.eq_5 := @binD.eq_5
@[simp] theorem s_binD_6 : type_of% @binD.eq_6 := @binD.eq_6
@[simp] theorem s_binD_7 : type_of% @binD.eq_7 := @binD.eq_7
@[simp] theorem s_binD_8 : type_of% @binD.eq_8 := @binD.eq_8
@[simp] theorem s_binD_9 : type_of% @binD.eq_9 := @binD.eq_9
@[simp] theorem s_cmpD_1 : type_of% @cmpD.eq_1 := @cmpD.eq_1
@[simp] theorem s_cmpD_2 : type_of% @cmpD.eq_2 := @cmpD.eq_2
@[simp] theorem s_cmpD_3 : type_of% @cmpD.eq_3 := @cmpD.eq_3
@[simp] theorem s_cmpD_4 : type_of% @cmpD.eq_4 := @cmpD.eq_4
@[simp] theorem s_cmpD_5 : type_of% @cmpD.eq_5 := @cmpD.eq_5
@[simp] theorem s_cmpD_6 : type_of% @cmpD.eq_6 := @cmpD.eq_6
@[simp] theorem s_cmpD_7 : type_of% @cmpD.eq_7 := @cmpD.eq_7
@[simp] theorem s_cmpD_8 : type_of% @cmpD.eq_8 := @cmpD.eq_8
@[simp] theorem s_cmpD_9 : type_of% @cmpD.eq_9 := @cmpD.eq_9
@[simp] theorem s_cmpD_10 : type_of% @cmpD.eq_10 := @cmpD.eq_10
@[simp] theorem s_itemD_1 : type_of% @itemD.eq_1 := @itemD.eq_1
@[simp] theorem s_itemD_2 : type_of% @itemD.eq_2 := @itemD.eq_2
@[simp] theorem s_itemD_3 : type_of% @itemD.eq_3 := @itemD.eq_3
@[simp] theorem s_sliceD_1 : type_of% @sliceD.eq_1 := @sliceD.eq_1
@[simp] theorem s_sliceD_2 : type_of% @sliceD.eq_2 := @sliceD.eq_2
@[simp] theorem s_bltD_1 : type_of% @bltD.eq_1 := @bltD.eq_1
@[simp] theorem s_bltD_2 : type_of% @bltD.eq_2 := @bltD.eq_2
@[simp] theorem s_bltD_3 : type_of% @bltD.eq_3 := @bltD.eq_3
@[simp] theorem s_bltD_4 : type_of% @bltD.eq_4 := @bltD.eq_4
@[simp] theorem s_bltD_5 : type_of% @bltD.eq_5 := @bltD.eq_5
@[simp] theorem s_bltD_6 : type_of% @bltD.eq_6 := @bltD.eq_6
@[simp] theorem s_bltD_7 : type_of% @bltD.eq_7 := @bltD.eq_7
@[simp] theorem s_bltD_8 : type_of% @bltD.eq_8 := @bltD.eq_8
@[simp] theorem s_bltD_9 : type_of% @bltD.eq_9 := @bltD.eq_9
@[simp] theorem s_bltD_10 : type_of% @bltD.eq_10 := @bltD.eq_10
@[simp] theorem s_bltD_11 : type_of% @bltD.eq_11 := @bltD.eq_11
@[simp] theorem s_bltD_12 : type_of% @bltD.eq_12 := @bltD.eq_12
@[simp] theorem s_itemsD_1 : type_of% @itemsD.eq_1 := @itemsD.eq_1
@[simp] theorem s_itemsD_2 : type_of% @itemsD.eq_2 := @itemsD.eq_2
@[simp] theorem s_itemsD_3 : type_of% @itemsD.eq_3 := @itemsD.eq_3
@[simp] theorem s_parD_1 : type_of% @parD.eq_1 := @parD.eq_1
@[simp] theorem s_parD_2 : type_of% @parD.eq_2 := @parD.eq_2
@[simp] theorem s_parD_3 : type_of% @parD.eq_3 := @parD.eq_3
@[simp] theorem s_wipeE_1 : type_of% @wipeE.eq_1 := @wipeE.eq_1
@[simp] theorem s_wipeE_2 : type_of% @wipeE.eq_2 := @wipeE.eq_2
@[simp] theorem isi_int_non : isiD .int (.non) = some false := rfl
@[simp] theorem isi_int_bl (b : Bool) : isiD .int (.bl b) = some true := rfl
@[simp] theorem isi_int_int (i : Int) : isiD .int (.int i) = some true := rfl
@[simp] theorem isi_int_str (x : Str) : isiD .int (.str x) = some false := rfl
@[simp] theorem isi_int_tup (ds : List D) : isiD .int (.tup ds) = some false := rfl
@[simp] theorem isi_int_lst (ds : List D) : isiD .int (.lst ds) = some false := rfl
@[simp] theorem isi_bool_non : isiD .bool (.non) = some false := rfl
@[simp] theorem isi_bool_bl (b : Bool) : isiD .bool (.bl b) = some true := rfl
@[simp] theorem isi_bool_int (i : Int) : isiD .bool (.int i) = some false := rfl
@[simp] theorem isi_bool_str (x : Str) : isiD .bool (.str x) = some false := rfl
@[simp] theorem isi_bool_tup (ds : List D) : isiD .bool (.tup ds) = some false := rfl
@[simp] theorem isi_bool_lst (ds : List D) : isiD .bool (.lst ds) = some false := rfl
@[simp] theorem isi_tuple_non : isiD .tuple (.non) = some false := rfl
@[simp] theorem isi_tuple_bl (b : Bool) : isiD .tuple (.bl b) = some false := rfl
@[simp] theorem isi_tuple_int (i : Int) : isiD .tuple (.int i) = some false := rfl
@[simp] theorem isi_tuple_str (x : Str) : isiD .tuple (.str x) = some false := rfl
@[simp] theorem isi_tuple_tup (ds : List D) : isiD .tuple (.tup ds) = some true := rfl
@[simp] theorem isi_tuple_lst (ds : List D) : isiD .tuple (.lst ds) = some false := rfl
@[simp] theorem isi_str_non : isiD .str (.non) = some false := rfl
@[simp] theorem isi_str_bl (b : Bool) : isiD .str (.bl b) = some false := rfl
@[simp] theorem isi_str_int (i : Int) : isiD .str (.int i) = some false := rfl
@[simp] theorem isi_str_str (x : Str) : isiD .str (.str x) = some true := rfl
@[simp] theorem isi_str_tup (ds : List D) : isiD .str (.tup ds) = some false := rfl
@[simp] theorem isi_str_lst (ds : List D) : isiD .str (.lst ds) = some false := rfl
@[simp] theorem isNon_non : D.isNon (.non) = true := rfl
@[simp] theorem isNon_bl (b : Bool) : D.isNon (.bl b) = false := rfl
@[simp] theorem isNon_int (i : Int) : D.isNon (.int i) = false := rfl
@[simp] theorem isNon_str (x : Str) : D.isNon (.str x) = false := rfl
@[simp] theorem isNon_tup (ds : List D) : D.isNon (.tup ds) = false := rfl
@[simp] theorem isNon_lst (ds : List D) : D.isNon (.lst ds) = false := rfl

section
variable (F : Nat → List D → Bx → Option (D × Bx)) (G : Nat → Option D)
/-- one turn of a comprehension -/
def stepC (t : T) (c e : E) (own : List Nat) (ρ : Env) (d : D) (bx : Bx) : Option (Option D × Bx) := match bindT t d (wipeE ρ own) with
  | none => none
  | some ρ1 => match evC F G c ρ1 bx with
    | none => none
    | some (false, bx2) => some (none, bx2)
    | some (true, bx2) => match evE F G e ρ1 bx2 with
      | none => none
      | some (y, bx3) => some (some y, bx3)
@[simp high] theorem evE_comp (t : T) (it c e : E) (own : List Nat) (ρ : Env) (bx : Bx) : evE F G (.comp t it c e own) ρ bx = match evI F G it ρ bx with
    | none => none
    | some (ds, bx1) => match compL (stepC F G t c e own ρ) ds bx1 with
      | none => none
      | some (r, bx2) => some (.lst r, bx2) := by
  simp only [evE]
  rfl
/-- one turn of a for -/
def stepF (t : T) (b : S) (d : D) (ρ : Env) (bx : Bx) : Option (Flow × Env × Bx) := match bindT t d ρ with
  | none => none
  | some ρ1 => exS F G b ρ1 bx
@[simp high] theorem exS_for (t : T) (it : E) (b : S) (ρ : Env) (bx : Bx) : exS F G (.for_ t it b) ρ bx = match evI F G it ρ bx with
    | none => none
    | some (ds, bx1) => forL (stepF F G t b) ds ρ bx1 := by
  simp only [exS]
  rfl
end
section
variable (F : Nat → List D → Bx → Option (D × Bx)) (G : Nat → Option D)
/-- a while's test and body -/
def tstW (c : E) (ρ : Env) (bx : Bx) : Option (Bool × Bx) := tstE F G c ρ bx
def bodyW (b : S) (ρ : Env) (bx : Bx) : Option (Flow × Env × Bx) := exS F G b ρ bx
@[simp] theorem exS_while (c : E) (b : S) (ρ : Env) (bx : Bx) : exS F G (.while_ c b) ρ bx = whL (tstW F G c) (bodyW F G b) WF ρ bx := by
  simp only [exS]
  rfl
end
theorem SZ_big : 16777216 = SZ := rfl
/-! ### loops -/
theorem compL_map {step : D → Bx → Option (Option D × Bx)} {bx : Bx} (f : D → D) : ∀ {ds : List D}, (∀ d ∈ ds, step d bx = some (some (f d), bx)) → compL step ds bx = some (ds.map f, bx)
  | [], _ => rfl
  | d :: ds, h => by
    unfold compL
    rw [h d (List.mem_cons_self ..)]
    simp only
    rw [compL_map f fun d hd => h d (List.mem_cons_of_mem _ hd)]
    rfl
/-- with a test -/
theorem compL_if {step : D → Bx → Option (Option D × Bx)} {bx : Bx} (p : D → Bool) (f : D → D) : ∀ {ds : List D}, (∀ d ∈ ds, step d bx = some ((if p d = true then some (f d) else none), bx)) → compL step ds bx = some ((ds.filter p).map f, bx)
  | [], _ => rfl
  | d :: ds, h => by
    unfold compL
    rw [h d (List.mem_cons_self ..)]
    simp only
    rw [compL_if p f fun d hd => h d (List.mem_cons_of_mem _ hd)]
    cases e : p d <;> simp [e]
/-- over values of a kind -/
theorem compL_mapT {α : Type} {step : D → Bx → Option (Option D × Bx)} {bx : Bx} (g f : α → D) : ∀ {as : List α}, (∀ a ∈ as, step (g a) bx = some (some (f a), bx)) → compL step (as.map g) bx = some (as.map f, bx)
  | [], _ => rfl
  | d :: ds, h => by
    rw [List.map_cons]
    unfold compL
    rw [h d (List.mem_cons_self ..)]
    simp only
    rw [compL_mapT g f fun d hd => h d (List.mem_cons_of_mem _ hd)]
    rfl
theorem compL_ifT {α : Type} {step : D → Bx → Option (Option D × Bx)} {bx : Bx} (g : α → D) (p : α → Bool) (f : α → D) : ∀ {as : List α}, (∀ a ∈ as, step (g a) bx = some ((if p a = true then some (f a) else none), bx)) → compL step (as.map g) bx = some ((as.filter p).map f, bx)
  | [], _ => rfl
  | d :: ds, h => by
    rw [List.map_cons]
    unfold compL
    rw [h d (List.mem_cons_self ..)]
    simp only
    rw [compL_ifT g p f fun d hd => h d (List.mem_cons_of_mem _ hd)]
    cases e : p d <;> simp [e]
/-- draws: what holds of each turn's value; I: of the boxes -/
theorem compL_all {step : D → Bx → Option (Option D × Bx)} {I : Bx → Prop} {P : D → Prop} : ∀ {ds : List D} {bx : Bx}, (∀ d ∈ ds, ∀ bx, I bx → ∃ y bx', step d bx = some (some y, bx') ∧ I bx' ∧ P y) → I bx →
    ∃ r bx', compL step ds bx = some (r, bx') ∧ I bx' ∧ r.length = ds.length ∧ ∀ y ∈ r, P y
  | [], bx, _, i => ⟨[], bx, rfl, i, rfl, fun _ h => by cases h⟩
  | d :: ds, bx, h, i => by
    obtain ⟨y, bx1, e, i1, p⟩ := h d (List.mem_cons_self ..) bx i
    obtain ⟨r, bx2, e2, i2, l, q⟩ := compL_all (ds := ds) (fun d hd => h d (List.mem_cons_of_mem _ hd)) i1
    refine ⟨y :: r, bx2, ?_, i2, by simp [l], fun z hz => ?_⟩
    · unfold compL
      rw [e]
      simp only
      rw [e2]
    · rcases List.mem_cons.mp hz with rfl | hz
      · exact p
      · exact q z hz
/-- a loop that keeps to its end: I tells of the place, the slots and the boxes -/
theorem forL_inv {step : D → Env → Bx → Option (Flow × Env × Bx)} (I : Nat → Env → Bx → Prop) : ∀ {ds : List D} {k : Nat} {ρ : Env} {bx : Bx}, (∀ j d ρ bx, ds[j]? = some d → I (k + j) ρ bx → ∃ ρ' bx', step d ρ bx = some (.nx, ρ', bx') ∧ I (k + j + 1) ρ' bx') → I k ρ bx →
    ∃ ρ' bx', forL step ds ρ bx = some (.nx, ρ', bx') ∧ I (k + ds.length) ρ' bx'
  | [], k, ρ, bx, _, i => ⟨ρ, bx, rfl, i⟩
  | d :: ds, k, ρ, bx, h, i => by
    obtain ⟨ρ1, bx1, e, i1⟩ := h 0 d ρ bx rfl i
    obtain ⟨ρ2, bx2, e2, i2⟩ := forL_inv I (ds := ds) (k := k + 1) (ρ := ρ1) (bx := bx1) (fun j d ρ bx hj hi => by
      have := h (j + 1) d ρ bx hj (by rw [show k + (j + 1) = k + 1 + j by omega]; exact hi)
      rw [show k + (j + 1) + 1 = k + 1 + j + 1 by omega] at this
      exact this) i1
    refine ⟨ρ2, bx2, ?_, by rw [List.length_cons, show k + (ds.length + 1) = k + 1 + ds.length by omega]; exact i2⟩
    unfold forL
    rw [e]
    exact e2
/-- a loop whose turns are known -/
theorem forL_fold {α : Type} {step : D → Env → Bx → Option (Flow × Env × Bx)} {bx : Bx} (f : α → D → α) (E : α → D → Env) (E0 : α → Env → Prop) : ∀ {ds : List D} {a : α} {ρ : Env}, (∀ a d ρ, d ∈ ds → E0 a ρ → step d ρ bx = some (.nx, E (f a d) d, bx) ∧ E0 (f a d) (E (f a d) d)) → E0 a ρ →
    ∃ ρ', forL step ds ρ bx = some (.nx, ρ', bx) ∧ E0 (ds.foldl f a) ρ'
  | [], a, ρ, _, i => ⟨ρ, rfl, i⟩
  | d :: ds, a, ρ, h, i => by
    obtain ⟨e, i1⟩ := h a d ρ (List.mem_cons_self ..) i
    obtain ⟨ρ2, e2, i2⟩ := forL_fold f E E0 (ds := ds) (fun a d ρ hd hi => h a d ρ (List.mem_cons_of_mem _ hd) hi) i1
    refine ⟨ρ2, ?_, i2⟩
    unfold forL
    rw [e]
    exact e2
theorem all_true {ds : List D} : allB (ds.map fun _ => D.bl true) = some true := by
  have : boolsD (ds.map fun _ => D.bl true) = some (ds.map fun _ => true) := by
    induction ds with
    | nil => rfl
    | cons d ds ih =>
      rw [List.map_cons]
      unfold boolsD
      rw [ih]
      rfl
  unfold allB
  rw [this]
  simp
/-- all([..]) of what holds each time -/
theorem compL_true {step : D → Bx → Option (Option D × Bx)} {bx : Bx} : ∀ {ds : List D}, (∀ d ∈ ds, step d bx = some (some (.bl true), bx)) → compL step ds bx = some (List.replicate ds.length (.bl true), bx)
  | [], _ => rfl
  | d :: ds, h => by
    unfold compL
    rw [h d (List.mem_cons_self ..)]
    simp only
    rw [compL_true fun d hd => h d (List.mem_cons_of_mem _ hd)]
    rfl
@[simp] theorem allB_rep (n : Nat) : allB (List.replicate n (.bl true)) = some true := by
  have := all_true (ds := List.replicate n (.bl true))
  rw [List.map_replicate] at this
  exact this
theorem range_len : ∀ (n : Nat) (lo : Int), (rangeD lo n).length = n
  | 0, _ => rfl
  | n + 1, lo => by simp [rangeD, range_len n]
theorem range_map : ∀ (n : Nat) (k : Nat), rangeD (k : Int) n = (List.range' k n).map fun i : Nat => D.int (i : Int)
  | 0, _ => rfl
  | n + 1, k => by
    have := range_map n (k + 1)
    simp only [rangeD, List.range'_succ, List.map_cons, List.cons.injEq, true_and]
    exact this
theorem range_map0 (n : Nat) : rangeD 0 n = (List.range n).map fun i : Nat => D.int (i : Int) := by
  rw [List.range_eq_range']
  exact range_map n 0
theorem enum_map : ∀ (ds : List D) (k : Nat), enumD k ds = (ds.zipIdx k).map fun p => D.tup [.int p.2, p.1]
  | [], _ => rfl
  | d :: ds, k => by simp [enumD, enum_map ds (k + 1)]
/-- values of a kind -/
theorem all_map {α : Type} {f : α → D} {p : α → Prop} : ∀ {r : List D}, (∀ y ∈ r, ∃ a, y = f a ∧ p a) → ∃ as : List α, r = as.map f ∧ ∀ a ∈ as, p a
  | [], _ => ⟨[], rfl, fun _ h => by cases h⟩
  | y :: r, h => by
    obtain ⟨a, rfl, ha⟩ := h y (List.mem_cons_self ..)
    obtain ⟨as, rfl, q⟩ := all_map (f := f) (p := p) fun y hy => h y (List.mem_cons_of_mem _ hy)
    exact ⟨a :: as, rfl, fun b hb => by
      rcases List.mem_cons.mp hb with rfl | hb
      · exact ha
      · exact q b hb⟩

/-! ### plain values compared -/
mutual
/-- no truth values, no objects -/
def D.pl : D → Bool
  | .non => true
  | .int _ => true
  | .str _ => true
  | .tup ds => D.plL ds
  | .lst ds => D.plL ds
  | _ => false
def D.plL : List D → Bool
  | [] => true
  | d :: ds => D.pl d && D.plL ds
end
mutual
theorem eqv_iff : ∀ {a b : D}, a.pl = true → b.pl = true → (a.eqv b = true ↔ a = b)
  | .non, b, _, h => by cases b <;> simp [D.eqv, D.pl] at h ⊢
  | .int i, b, _, h => by cases b <;> simp [D.eqv, D.pl] at h ⊢
  | .str x, b, _, h => by cases b <;> simp [D.eqv, D.pl] at h ⊢
  | .tup xs, b, h1, h => by
    cases b <;> simp only [D.eqv, D.pl] at h h1 ⊢ <;> try simp
    exact eqvL_iff h1 h
  | .lst xs, b, h1, h => by
    cases b <;> simp only [D.eqv, D.pl] at h h1 ⊢ <;> try simp
    exact eqvL_iff h1 h
  | .bl _, _, h, _ => by cases h
  | .rng _ _, _, h, _ => by cases h
  | .ref _, _, h, _ => by cases h
  | .scr _, _, h, _ => by cases h
theorem eqvL_iff : ∀ {a b : List D}, D.plL a = true → D.plL b = true → (D.eqvL a b = true ↔ a = b)
  | [], b, _, h => by cases b <;> simp [D.eqvL]
  | x :: xs, b, h1, h => by
    cases b with
    | nil => simp [D.eqvL]
    | cons y ys =>
      simp only [D.plL, Bool.and_eq_true] at h1 h
      simp only [D.eqvL, Bool.and_eq_true, List.cons.injEq]
      rw [eqv_iff h1.1 h.1, eqvL_iff h1.2 h.2]
end
mutual
theorem fit_mono : ∀ {n m : Nat} {d : D}, n ≤ m → d.fit n = true → d.fit m = true
  | n, m, .non, _, _ => by cases m <;> rfl
  | n, m, .bl _, _, _ => by cases m <;> rfl
  | n, m, .int _, _, _ => by cases m <;> rfl
  | n, m, .str _, _, _ => by cases m <;> rfl
  | 0, m, .tup ds, _, e => by cases e
  | 0, m, .lst ds, _, e => by cases e
  | n + 1, m, .tup ds, h, e => by
    obtain ⟨k, rfl⟩ : ∃ k, m = k + 1 := ⟨m - 1, by omega⟩
    exact fitL_mono (n := n) (m := k) (by omega) e
  | n + 1, m, .lst ds, h, e => by
    obtain ⟨k, rfl⟩ : ∃ k, m = k + 1 := ⟨m - 1, by omega⟩
    exact fitL_mono (n := n) (m := k) (by omega) e
  | n, m, .rng _ _, _, e => by cases n <;> cases e
  | n, m, .ref _, _, e => by cases n <;> cases e
  | n, m, .scr _, _, e => by cases n <;> cases e
theorem fitL_mono : ∀ {n m : Nat} {ds : List D}, n ≤ m → D.fitL n ds = true → D.fitL m ds = true
  | n, m, [], _, _ => by cases m <;> rfl
  | n, m, d :: ds, h, e => by
    simp only [D.fitL, Bool.and_eq_true] at e ⊢
    exact ⟨fit_mono h e.1, fitL_mono h e.2⟩
end
/-- plain, and at most n deep -/
def Pl (n : Nat) (d : D) : Prop := d.pl = true ∧ d.fit n = true
theorem eqD_pl {a b : D} {n m : Nat} (ha : Pl n a) (hb : Pl m b) (hn : n ≤ DEEP) (hm : m ≤ DEEP) [Decidable (a = b)] : eqD a b = some (decide (a = b)) := by
  unfold eqD
  rw [if_pos ⟨fit_mono hn ha.2, fit_mono hm hb.2⟩]
  congr 1
  have := eqv_iff ha.1 hb.1
  by_cases h : a = b
  · simp only [h, decide_true]
    exact (eqv_iff hb.1 hb.1).mpr rfl
  · simp only [h, decide_false]
    cases e : a.eqv b
    · rfl
    · exact absurd (this.mp e) h
theorem plL_iff : ∀ {ds : List D}, D.plL ds = true ↔ ∀ d ∈ ds, d.pl = true
  | [] => by simp [D.plL]
  | d :: ds => by simp [D.plL, plL_iff]
theorem fitL_iff {n : Nat} : ∀ {ds : List D}, D.fitL n ds = true ↔ ∀ d ∈ ds, d.fit n = true
  | [] => by simp [D.fitL]
  | d :: ds => by simp [D.fitL, fitL_iff]
theorem Pl.tup {n : Nat} {ds : List D} (h : ∀ d ∈ ds, Pl n d) : Pl (n + 1) (.tup ds) := ⟨plL_iff.mpr fun d hd => (h d hd).1, fitL_iff.mpr fun d hd => (h d hd).2⟩
theorem Pl.lst {n : Nat} {ds : List D} (h : ∀ d ∈ ds, Pl n d) : Pl (n + 1) (.lst ds) := ⟨plL_iff.mpr fun d hd => (h d hd).1, fitL_iff.mpr fun d hd => (h d hd).2⟩
theorem Pl.int {n : Nat} {i : Int} : Pl n (.int i) := ⟨rfl, by cases n <;> rfl⟩
theorem Pl.str {n : Nat} {x : Str} : Pl n (.str x) := ⟨rfl, by cases n <;> rfl⟩
theorem Pl.non {n : Nat} : Pl n .non := ⟨rfl, by cases n <;> rfl⟩
theorem Pl.up {n m : Nat} {d : D} (h : Pl n d) (e : n ≤ m) : Pl m d := ⟨h.1, fit_mono e h.2⟩

@[simp] theorem eqD_int (i j : Int) : eqD (.int i) (.int j) = some (decide (i = j)) := by
  classical
  rw [eqD_pl (n := 0) (m := 0) .int .int (by decide) (by decide)]
  exact congrArg some (decide_eq_decide.mpr ⟨fun h => D.int.inj h, fun h => by rw [h]⟩)
@[simp] theorem eqD_str (x y : Str) : eqD (.str x) (.str y) = some (decide (x = y)) := by
  classical
  rw [eqD_pl (n := 0) (m := 0) .str .str (by decide) (by decide)]
  exact congrArg some (decide_eq_decide.mpr ⟨fun h => D.str.inj h, fun h => by rw [h]⟩)
/-! ### places -/
theorem ix_nat {n i : Nat} (h : i < n) : ixD n (i : Int) = some i := by
  unfold ixD
  rw [if_pos (by omega), if_pos (by omega)]
  simp
theorem cut_to (ds : List D) (k : Nat) : cutD ds none (some (k : Int)) = ds.take k := by
  unfold cutD cutIx
  simp only [show ¬((k : Int) < 0) by omega, if_false, List.drop_zero, Int.toNat_natCast, Nat.sub_zero]
  rw [Nat.min_comm]
  by_cases h : k ≤ ds.length
  · rw [Nat.min_eq_right h]
  · rw [Nat.min_eq_left (by omega), List.take_of_length_le (Nat.le_refl _), List.take_of_length_le (by omega)]
theorem cut_from (ds : List D) (k : Nat) : cutD ds (some (k : Int)) none = ds.drop k := by
  unfold cutD cutIx
  simp only [show ¬((k : Int) < 0) by omega, if_false, Int.toNat_natCast]
  by_cases h : k ≤ ds.length
  · rw [Nat.min_eq_left h, List.take_of_length_le (by simp)]
  · rw [Nat.min_eq_right (by omega), List.take_of_length_le (by simp), List.drop_of_length_le (Nat.le_refl _), List.drop_of_length_le (by omega)]

theorem cut_from1 (ds : List D) (k : Nat) : cutD ds (some ((k : Int) + 1)) none = ds.drop (k + 1) := cut_from ds (k + 1)
/-! ### the cup -/
def Cup (bx : Bx) : Prop := ∃ a b : Int, bx = [.lst [.int a, .int b]]
end Dk

set_option autoImplicit false
set_option linter.all false
set_option maxRecDepth 10000
/-! The disk's functions, what they compute. Own work. -/
namespace Dk.K49
open PySem Dk

/-! ### disks -/
structure Dsk where
  mark : Option Nat
  log : List (Nat × List Int)
  bl : List (List Int)
deriving DecidableEq
inductive Wr where
  | mark (m : Option Nat)
  | log (a n : Nat) (c : List Int)
  | block (n : Nat) (c : List Int)
def cD (c : List Int) : D := .tup (c.map D.int)
def bsD (bs : List (List Int)) : D := .tup (bs.map cD)
def slotD (p : Nat × List Int) : D := .tup [.int (p.1 : Int), cD p.2]
def markD : Option Nat → D
  | none => .non
  | some m => .int (m : Int)
def dskD (d : Dsk) : D := .tup [markD d.mark, .tup (d.log.map slotD), bsD d.bl]
def wrD : Wr → D
  | .mark m => .tup [.str "mark", markD m]
  | .log a n c => .tup [.str "log", .int (a : Int), .int (n : Int), cD c]
  | .block n c => .tup [.str "block", .int (n : Int), cD c]
def wItem {α : Type} (xs : List α) (i : Nat) (x : α) : List α := xs.take i ++ [x] ++ xs.drop (i + 1)
def pad (bs : List (List Int)) (n : Nat) : List (List Int) := bs ++ List.replicate (n - bs.length) []
def Dsk.wr (d : Dsk) : Wr → Dsk
  | .mark m => ⟨m, d.log, d.bl⟩
  | .log a n c => ⟨d.mark, wItem d.log a (n, c), d.bl⟩
  | .block n c => ⟨d.mark, d.log, wItem (pad d.bl n) n c⟩
def Dsk.wrs (d : Dsk) (ws : List Wr) : Dsk := ws.foldl Dsk.wr d
def cAt (bs : List (List Int)) (n : Nat) : List Int := bs[n]?.getD []
def turned (old new : List (List Int)) : List (Nat × List Int) := ((List.range (max old.length new.length)).filter fun n => decide (cAt old n ≠ cAt new n)).map fun n => (n, cAt new n)
def logWs (t : List (Nat × List Int)) : List Wr := (t.zipIdx 0).map fun p => .log p.2 p.1.1 p.1.2
def blWs (t : List (Nat × List Int)) : List Wr := t.map fun p => .block p.1 p.2
def writesFor (d : Dsk) (new : List (List Int)) : List Wr :=
  if turned d.bl new = [] then [] else logWs (turned d.bl new) ++ [.mark (some (turned d.bl new).length)] ++ blWs (turned d.bl new) ++ [.mark none]
def rising (d : Dsk) : List Wr := match d.mark with
  | none => []
  | some m => blWs (d.log.take m) ++ [.mark none]
def rise1 (d : Dsk) (f : Nat) : Dsk := d.wrs ((rising d).take f)
def rise (d : Dsk) (fs : List Nat) : Dsk := (fs.foldl rise1 d).wrs (rising (fs.foldl rise1 d))
def fallsD (fs : List Nat) : D := .tup (fs.map fun f : Nat => D.int (f : Int))
def commitOn (d : Dsk) (new : List (List Int)) : List Nat → Dsk
  | [] => d.wrs (writesFor d new)
  | f :: fs => rise (d.wrs ((writesFor d new).take f)) fs

/-! ### what is plain -/
theorem pl_c (c : List Int) : Pl 1 (cD c) := .tup fun d h => by
  obtain ⟨i, _, rfl⟩ := List.mem_map.mp h
  exact .int
theorem pl_bs (bs : List (List Int)) : Pl 2 (bsD bs) := .tup fun d h => by
  obtain ⟨i, _, rfl⟩ := List.mem_map.mp h
  exact pl_c i
theorem pl_slot (p : Nat × List Int) : Pl 2 (slotD p) := .tup fun d h => by
  simp only [List.mem_cons, List.not_mem_nil, or_false] at h
  rcases h with rfl | rfl
  · exact .int
  · exact pl_c _
theorem pl_mark (m : Option Nat) : Pl 1 (markD m) := by
  cases m
  · exact .non
  · exact .int
theorem pl_dsk (d : Dsk) : Pl 4 (dskD d) := .tup fun x h => by
  simp only [List.mem_cons, List.not_mem_nil, or_false] at h
  rcases h with rfl | rfl | rfl
  · exact (pl_mark _).up (by omega)
  · exact .tup fun x h => by
      obtain ⟨p, _, rfl⟩ := List.mem_map.mp h
      exact pl_slot p
  · exact (pl_bs _).up (by omega)
theorem map_inj {α : Type} {f : α → D} (h : ∀ a b, f a = f b → a = b) : ∀ {as bs : List α}, as.map f = bs.map f → as = bs
  | [], [], _ => rfl
  | [], _ :: _, e => by simp at e
  | _ :: _, [], e => by simp at e
  | a :: as, b :: bs, e => by
    simp only [List.map_cons, List.cons.injEq] at e
    rw [h a b e.1, map_inj h e.2]
theorem cD_inj {a b : List Int} (e : cD a = cD b) : a = b := by
  unfold cD at e
  exact map_inj (fun a b e => by injection e) (D.tup.inj e)
theorem bsD_inj {a b : List (List Int)} (e : bsD a = bsD b) : a = b := map_inj (fun _ _ => cD_inj) (D.tup.inj e)
theorem slotD_inj {a b : Nat × List Int} (e : slotD a = slotD b) : a = b := by
  unfold slotD at e
  simp only [D.tup.injEq, List.cons.injEq, D.int.injEq, and_true] at e
  have := cD_inj e.2
  ext1
  · omega
  · exact this
theorem markD_inj {a b : Option Nat} (e : markD a = markD b) : a = b := by
  cases a <;> cases b <;> simp [markD] at e ⊢
  omega
theorem dskD_inj {a b : Dsk} (e : dskD a = dskD b) : a = b := by
  unfold dskD at e
  simp only [D.tup.injEq, List.cons.injEq, and_true] at e
  have h1 := markD_inj e.1
  have h2 := map_inj (fun _ _ => slotD_inj) e.2.1
  have h3 := bsD_inj e.2.2
  cases a
  cases b
  simp_all
theorem eqD_c (a b : List Int) : eqD (cD a) (cD b) = some (decide (a = b)) := by
  classical
  rw [eqD_pl (pl_c a) (pl_c b) (by decide) (by decide)]
  exact congrArg some (decide_eq_decide.mpr ⟨cD_inj, fun h => by rw [h]⟩)
theorem eqD_bs (a b : List (List Int)) : eqD (bsD a) (bsD b) = some (decide (a = b)) := by
  classical
  rw [eqD_pl (pl_bs a) (pl_bs b) (by decide) (by decide)]
  exact congrArg some (decide_eq_decide.mpr ⟨bsD_inj, fun h => by rw [h]⟩)

/-! ### what fits -/
def okC (c : List Int) : Prop := c.length ≤ 512 ∧ ∀ x ∈ c, 0 ≤ x ∧ x ≤ 255
def okBs (bs : List (List Int)) : Prop := 1 ≤ bs.length ∧ bs.length ≤ 1000 ∧ ∀ c ∈ bs, okC c
def okSlot (p : Nat × List Int) : Prop := p.1 ≤ 999 ∧ okC p.2
structure Dsk.ok (d : Dsk) : Prop where
  m : ∀ k, d.mark = some k → 1 ≤ k ∧ k ≤ d.log.length
  l : d.log.length ≤ 1000
  s : ∀ p ∈ d.log, okSlot p
  b : okBs d.bl
theorem t_whole (n : Nat) (i lo hi : Int) (bx : Bx) (h1 : lo ≤ i) (h2 : i ≤ hi) : run (n + 1) 0 [.int i, .int lo, .int hi] bx = some (.bl true, bx) := by
  simp [r_is_whole, b_is_whole, h1, h2]
theorem t_tuple (n : Nat) (ds : List D) (lo hi : Int) (bx : Bx) (h1 : lo ≤ ds.length) (h2 : (ds.length : Int) ≤ hi) : run (n + 1) 1 [.tup ds, .int lo, .int hi] bx = some (.bl true, bx) := by
  simp [r_is_tuple_of, b_is_tuple_of, h1, h2]
theorem t_content (n : Nat) (c : List Int) (bx : Bx) (h : okC c) : run (n + 2) 2 [cD c] bx = some (.bl true, bx) := by
  have h1 : ((c.map D.int).length : Int) ≤ 512 := by rw [List.length_map]; have := h.1; omega
  simp only [r_fits_content, b_fits_content, cD]
  simp only [exS, evE, evA, evI, List.getElem?_cons_zero, G_0, itemsD]
  rw [t_tuple n _ _ _ _ (by omega) h1]
  simp only
  rw [compL_true]
  · simp
  · intro d hd
    obtain ⟨i, hi, rfl⟩ := List.mem_map.mp hd
    have := h.2 i hi
    simp [stepC, t_whole n i 0 255 bx this.1 this.2]
theorem t_contents (n : Nat) (bs : List (List Int)) (bx : Bx) (h : okBs bs) : run (n + 3) 3 [bsD bs] bx = some (.bl true, bx) := by
  have h0 : (1 : Int) ≤ ((bs.map cD).length : Int) := by rw [List.length_map]; have := h.1; omega
  have h1 : ((bs.map cD).length : Int) ≤ 1000 := by rw [List.length_map]; have := h.2.1; omega
  simp only [r_fits_contents, b_fits_contents, bsD]
  simp only [exS, evE, evA, evI, List.getElem?_cons_zero, G_1, itemsD]
  rw [t_tuple (n + 1) _ _ _ _ h0 h1]
  simp only
  rw [compL_true]
  · simp
  · intro d hd
    obtain ⟨c, hc, rfl⟩ := List.mem_map.mp hd
    simp [stepC, t_content n c bx (h.2.2 c hc)]
theorem t_slot (n : Nat) (p : Nat × List Int) (bx : Bx) (h : okSlot p) : run (n + 3) 4 [slotD p] bx = some (.bl true, bx) := by
  have := h.1
  simp only [r_fits_slot, b_fits_slot, slotD]
  simp [t_tuple, ixD, t_whole (n + 1) (p.1 : Int) 0 999 bx (by omega) (by omega), t_content n p.2 bx h.2]
theorem t_mark (n : Nat) (d : Dsk) (bx : Bx) (h : d.ok) : run (n + 2) 5 [.tup (d.log.map slotD), markD d.mark] bx = some (.bl true, bx) := by
  simp only [r_fits_mark, b_fits_mark]
  cases e : d.mark with
  | none => simp [markD]
  | some k =>
    have := h.m k e
    simp [markD, t_whole n (k : Int) 1 (d.log.length : Int) bx (by omega) (by omega)]
theorem t_disk (n : Nat) (d : Dsk) (bx : Bx) (h : d.ok) : run (n + 4) 6 [dskD d] bx = some (.bl true, bx) := by
  have h1 : ((d.log.map slotD).length : Int) ≤ 1000 := by rw [List.length_map]; have := h.l; omega
  have e : ∀ d' ∈ d.log.map slotD, run (n + 3) 4 [d'] bx = some (.bl true, bx) := fun d' hd => by
    obtain ⟨p, hp, rfl⟩ := List.mem_map.mp hd
    exact t_slot n p bx (h.s p hp)
  simp only [r_fits_disk, b_fits_disk, dskD]
  simp [t_tuple (n + 2) [markD d.mark, .tup (d.log.map slotD), bsD d.bl] 3 3 bx (by simp) (by simp), t_tuple (n + 2) (d.log.map slotD) 0 1000 bx (by omega) h1, ixD]
  rw [compL_true]
  · simp [ixD, t_mark, h, t_contents n d.bl bx h.b]
  · intro d' hd
    simp [stepC, e d' hd]
end Dk.K49

set_option autoImplicit false
set_option linter.all false
set_option maxRecDepth 10000
/-! The disk's writes. Own work. -/
namespace Dk.K49
open PySem Dk

/-! ### sizes -/
def Dsk.sz (d : Dsk) : Prop := d.log.length ≤ 1000 ∧ d.bl.length ≤ 1000
def Wr.sz : Wr → Prop
  | .mark _ => True
  | .log a _ _ => a < 1000
  | .block n _ => n < 1000
theorem wItem_map {α : Type} (f : α → D) (xs : List α) (i : Nat) (x : α) : (wItem xs i x).map f = wItem (xs.map f) i (f x) := by simp [wItem]
theorem wItem_len {α : Type} (xs : List α) (i : Nat) (x : α) : (wItem xs i x).length ≤ max xs.length (i + 1) := by
  simp only [wItem, List.length_append, List.length_take, List.length_drop, List.length_cons, List.length_nil]
  omega
theorem pad_len (bs : List (List Int)) (n : Nat) : (pad bs n).length = max bs.length n := by
  simp only [pad, List.length_append, List.length_replicate]
  omega
theorem wr_sz {d : Dsk} {w : Wr} (h : d.sz) (g : w.sz) : (d.wr w).sz := by
  cases w with
  | mark m => exact h
  | log a n c =>
    have := wItem_len d.log a (n, c)
    have g : a < 1000 := g
    exact ⟨by show (wItem d.log a (n, c)).length ≤ 1000; have := h.1; omega, h.2⟩
  | block n c =>
    have h1 := wItem_len (pad d.bl n) n c
    have h2 := pad_len d.bl n
    have g : n < 1000 := g
    exact ⟨h.1, by show (wItem (pad d.bl n) n c).length ≤ 1000; have := h.2; omega⟩
theorem wrs_sz : ∀ {ws : List Wr} {d : Dsk}, d.sz → (∀ w ∈ ws, w.sz) → (d.wrs ws).sz
  | [], _, h, _ => h
  | w :: ws, d, h, g => wrs_sz (ws := ws) (d := d.wr w) (wr_sz h (g w (List.mem_cons_self ..))) fun v hv => g v (List.mem_cons_of_mem _ hv)

/-! ### writes -/
theorem t_item (n : Nat) (xs : List D) (i : Nat) (x : D) (bx : Bx) (h : xs.length ≤ 1000) : run (n + 1) 7 [.tup xs, .int (i : Int), x] bx = some (.tup (wItem xs i x), bx) := by
  have hs : SZ = 16777216 := rfl
  simp only [r_with_item, b_with_item]
  have c1 : min i xs.length + 1 ≤ 16777216 := by omega
  have c2 : min i xs.length + 1 + (xs.length - (i + 1)) ≤ 16777216 := by omega
  simp [cut_to, cut_from1, hs, wItem, c1, c2]
theorem t_written (n : Nat) (d : Dsk) (w : Wr) (bx : Bx) (h : d.sz) (g : w.sz) : run (n + 2) 8 [dskD d, wrD w] bx = some (dskD (d.wr w), bx) := by
  have hs : SZ = 16777216 := rfl
  have e2 : (2 : Int) = ((2 : Nat) : Int) := rfl
  have s1 : eqD (.str "mark") (.str "mark") = some true := by decide +kernel
  have s2 : eqD (.str "log") (.str "mark") = some false := by decide +kernel
  have s3 : eqD (.str "log") (.str "log") = some true := by decide +kernel
  have s4 : eqD (.str "block") (.str "mark") = some false := by decide +kernel
  have s5 : eqD (.str "block") (.str "log") = some false := by decide +kernel
  cases w with
  | mark m => simp [r_written_to, b_written_to, dskD, wrD, Dsk.wr, ixD, s1, hs]
  | log a k c =>
    have := t_item n (d.log.map slotD) a (slotD (k, c)) bx (by rw [List.length_map]; exact h.1)
    simp [r_written_to, b_written_to, dskD, wrD, Dsk.wr, ixD, s2, s3, hs, cutD, cutIx]
    rw [show D.tup [.int (k : Int), cD c] = slotD (k, c) from rfl, this]
    simp [wItem_map]
  | block k c =>
    have g : k < 1000 := g
    have hl : d.bl.length ≤ 1000 := h.2
    have e : ((k : Int) - (d.bl.length : Int)).toNat = k - d.bl.length := by omega
    have hp := pad_len d.bl k
    have := t_item n ((pad d.bl k).map cD) k (cD c) bx (by rw [List.length_map]; omega)
    have ef : (List.replicate (k - d.bl.length) [D.tup []]).flatten = (List.replicate (k - d.bl.length) ([] : List Int)).map cD := by
      induction (k - d.bl.length) with
      | zero => rfl
      | succ j ih => rw [List.replicate_succ, List.flatten_cons, ih, List.replicate_succ]; rfl
    simp [r_written_to, b_written_to, dskD, wrD, Dsk.wr, ixD, s4, s5, hs, bsD, e, ef]
    rw [if_pos (by omega)]
    simp
    rw [if_pos (by omega)]
    simp [pad, List.map_append, List.map_replicate] at this ⊢
    rw [this]
    simp [wItem_map, List.map_append]
theorem t_all (n : Nat) (d : Dsk) (ws : List Wr) (bx : Bx) (h : d.sz) (g : ∀ w ∈ ws, w.sz) (W : D) (hW : W = .lst (ws.map wrD) ∨ W = .tup (ws.map wrD)) : run (n + 3) 9 [dskD d, W] bx = some (dskD (d.wrs ws), bx) := by
  have L : ∀ (ws : List Wr) (d : Dsk) (o : Option D), d.sz → (∀ w ∈ ws, w.sz) → ∃ o', forL (stepF (run (n + 2)) G (.nam 2) b_all_written_l1) (ws.map wrD) [some (dskD d), some W, o] bx = some (.nx, [some (dskD (d.wrs ws)), some W, o'], bx) := by
    intro ws
    induction ws with
    | nil => exact fun d o _ _ => ⟨o, rfl⟩
    | cons w ws ih =>
      intro d o h g
      obtain ⟨o', e⟩ := ih (d.wr w) (some (wrD w)) (wr_sz h (g w (List.mem_cons_self ..))) fun v hv => g v (List.mem_cons_of_mem _ hv)
      refine ⟨o', ?_⟩
      rw [List.map_cons]
      unfold forL
      have st : stepF (run (n + 2)) G (.nam 2) b_all_written_l1 (wrD w) [some (dskD d), some W, o] bx = some (.nx, [some (dskD (d.wr w)), some W, some (wrD w)], bx) := by simp [stepF, b_all_written_l1, t_written n d w bx h (g w (List.mem_cons_self ..))]
      rw [st]
      exact e
  obtain ⟨o', e⟩ := L ws d none h g
  have hi : itemsD W = some (ws.map wrD) := by rcases hW with rfl | rfl <;> rfl
  simp [r_all_written, b_all_written, hi, e]
theorem t_at (n : Nat) (bs : List (List Int)) (k : Nat) (bx : Bx) : run (n + 1) 10 [bsD bs, .int (k : Int)] bx = some (cD (cAt bs k), bx) := by
  simp only [r_content_at, b_content_at, bsD]
  by_cases h : k < bs.length
  · simp [h, ix_nat, cAt]
  · simp [h, cAt, List.getElem?_eq_none (Nat.le_of_not_lt h), SZ]
    rfl
theorem t_turned (n : Nat) (old new : List (List Int)) (bx : Bx) (h1 : old.length ≤ 1000) (h2 : new.length ≤ 1000) : run (n + 2) 11 [bsD old, bsD new] bx = some (.lst ((turned old new).map slotD), bx) := by
  have em : (if old.length < new.length then (new.length : Int) else (old.length : Int)) = ((max old.length new.length : Nat) : Int) := by
    split <;> omega
  have hm : max old.length new.length ≤ 1000 := by omega
  have hz : max old.length new.length ≤ SZ := by unfold SZ; omega
  simp [r_turned_in, b_turned_in, bsD]
  rw [em]
  simp
  rw [if_pos (by omega)]
  simp
  rw [if_pos ⟨by omega, by omega⟩]
  simp
  rw [range_map0, compL_ifT _ (fun i => decide (cAt old i ≠ cAt new i)) (fun i => slotD (i, cAt new i))]
  · simp [turned]
  · intro i hi
    have a1 := t_at n old i bx
    have a2 := t_at n new i bx
    unfold bsD at a1 a2
    by_cases he : cAt old i = cAt new i <;> simp [stepC, a1, a2, eqD_c, he, slotD, SZ]
end Dk.K49

set_option autoImplicit false
set_option linter.all false
set_option maxRecDepth 10000
/-! Commits. Own work. -/
namespace Dk.K49
open PySem Dk

theorem turned_len (old new : List (List Int)) : (turned old new).length ≤ max old.length new.length := by
  unfold turned
  rw [List.length_map]
  exact Nat.le_trans (List.length_filter_le _ _) (by rw [List.length_range]; exact Nat.le_refl _)
theorem turned_mem {old new : List (List Int)} {p : Nat × List Int} (h : p ∈ turned old new) : p.1 < max old.length new.length ∧ p.2 = cAt new p.1 ∧ cAt old p.1 ≠ cAt new p.1 := by
  unfold turned at h
  obtain ⟨i, hi, rfl⟩ := List.mem_map.mp h
  rw [List.mem_filter] at hi
  exact ⟨List.mem_range.mp hi.1, rfl, by simpa using hi.2⟩
theorem eqD_slots (t : List (Nat × List Int)) : eqD (.lst (t.map slotD)) (.lst []) = some (decide (t = [])) := by
  classical
  rw [eqD_pl (n := 3) (m := 3) (.lst fun x h => by
    obtain ⟨p, _, rfl⟩ := List.mem_map.mp h
    exact pl_slot p) (.lst fun x h => by cases h) (by decide) (by decide)]
  exact congrArg some (decide_eq_decide.mpr ⟨fun e => by simpa using e, fun h => by rw [h]; rfl⟩)
theorem t_writes (n : Nat) (d : Dsk) (new : List (List Int)) (bx : Bx) (h1 : d.bl.length ≤ 1000) (h2 : new.length ≤ 1000) : run (n + 3) 12 [dskD d, bsD new] bx = some (.lst ((writesFor d new).map wrD), bx) := by
  have ht := turned_len d.bl new
  have hs : SZ = 16777216 := rfl
  have e := t_turned n d.bl new bx h1 h2
  simp [r_writes_for, b_writes_for, dskD, ixD, e, hs]
  rw [eqD_slots]
  by_cases hn : turned d.bl new = []
  · simp [hn, writesFor]
  · simp [hn]
    rw [enum_map, List.zipIdx_map, List.map_map, compL_mapT _ (fun p : (Nat × List Int) × Nat => wrD (.log p.2 p.1.1 p.1.2)) (fun p hp => by simp [stepC, slotD, wrD, hs])]
    have c1 : (turned d.bl new).length < 16777216 := by omega
    have c2 : (turned d.bl new).length + 1 + (turned d.bl new).length ≤ 16777216 := by omega
    have c3 : (turned d.bl new).length + ((turned d.bl new).length + 1) ≤ 16777215 := by omega
    simp [hs, c1]
    rw [compL_mapT _ (fun p : Nat × List Int => wrD (.block p.1 p.2)) (fun p hp => by simp [stepC, slotD, wrD, hs])]
    simp [hs, c2, c3]
    simp [writesFor, hn, logWs, blWs, wrD, markD, Function.comp_def]
theorem logWs_mem {t : List (Nat × List Int)} {w : Wr} (h : w ∈ logWs t) : ∃ a n c, w = .log a n c ∧ a < t.length ∧ (n, c) ∈ t := by
  unfold logWs at h
  obtain ⟨⟨⟨n, c⟩, a⟩, hp, rfl⟩ := List.mem_map.mp h
  have h3 := List.mem_zipIdx_iff_getElem?.mp hp
  exact ⟨a, n, c, rfl, (List.getElem?_eq_some_iff.mp h3).1, List.mem_of_getElem? h3⟩
theorem writes_sz {d : Dsk} {new : List (List Int)} (h1 : d.bl.length ≤ 1000) (h2 : new.length ≤ 1000) : ∀ w ∈ writesFor d new, w.sz := fun w hw => by
  have ht := turned_len d.bl new
  unfold writesFor at hw
  split at hw
  · cases hw
  · simp only [List.mem_append, List.mem_singleton] at hw
    rcases hw with ((hw | rfl) | hw) | rfl
    · obtain ⟨a, n, c, rfl, ha, _⟩ := logWs_mem hw
      show a < 1000
      omega
    · trivial
    · obtain ⟨p, hp, rfl⟩ := List.mem_map.mp hw
      have := (turned_mem hp).1
      show p.1 < 1000
      omega
    · trivial
/-- every slot of the log names a block -/
def Dsk.lg (d : Dsk) : Prop := ∀ p ∈ d.log, p.1 < 1000
theorem rising_sz {d : Dsk} (h : d.lg) : ∀ w ∈ rising d, w.sz := fun w hw => by
  unfold rising at hw
  split at hw
  · cases hw
  · simp only [List.mem_append, List.mem_singleton] at hw
    rcases hw with hw | rfl
    · obtain ⟨p, hp, rfl⟩ := List.mem_map.mp hw
      exact h p (List.mem_of_mem_take hp)
    · trivial
theorem rising_lg {ws : List Wr} : ∀ {d : Dsk}, d.lg → (∀ w ∈ ws, ∀ a n c, w = .log a n c → n < 1000) → (d.wrs ws).lg := by
  induction ws with
  | nil => exact fun h _ => h
  | cons w ws ih =>
    intro d h g
    refine ih (d := d.wr w) ?_ fun v hv => g v (List.mem_cons_of_mem _ hv)
    cases w with
    | mark m => exact h
    | block n c => exact h
    | log a n c =>
      intro p hp
      have hp : p ∈ wItem d.log a (n, c) := hp
      unfold wItem at hp
      simp only [List.mem_append, List.mem_singleton] at hp
      rcases hp with (hp | rfl) | hp
      · exact h p (List.mem_of_mem_take hp)
      · exact g _ (List.mem_cons_self ..) a n c rfl
      · exact h p (List.mem_of_mem_drop hp)
theorem rising_nolog {d : Dsk} {w : Wr} (h : w ∈ rising d) : ∀ a n c, w ≠ .log a n c := fun a n c e => by
  subst e
  unfold rising at h
  split at h
  · cases h
  · simp only [List.mem_append, List.mem_singleton] at h
    rcases h with hw | e
    · obtain ⟨p, hp, e⟩ := List.mem_map.mp hw
      cases e
    · cases e
theorem t_rising (n : Nat) (d : Dsk) (bx : Bx) (h : d.sz) : run (n + 1) 13 [dskD d] bx = some (.lst ((rising d).map wrD), bx) := by
  have hs : SZ = 16777216 := rfl
  have hl := h.1
  cases e : d.mark with
  | none => simp [r_rising_for, b_rising_for, dskD, ixD, e, markD, rising, hs]
  | some m =>
    simp [r_rising_for, b_rising_for, dskD, ixD, e, markD, rising, hs, cut_to]
    rw [← List.map_take, compL_mapT _ (fun p : Nat × List Int => wrD (.block p.1 p.2))]
    · have : (d.log.take m).length ≤ 1000 := by rw [List.length_take]; omega
      have c : min m d.log.length + 1 ≤ 16777216 := by omega
      simp [hs, c, blWs, wrD, markD, Function.comp_def]
    · intro p hp
      simp [stepC, slotD, wrD, hs]
theorem rise1_sz {d : Dsk} (h : d.sz) (g : d.lg) (f : Nat) : (rise1 d f).sz ∧ (rise1 d f).lg :=
  ⟨wrs_sz h fun w hw => rising_sz g w (List.mem_of_mem_take hw), rising_lg g fun w hw a n c e => absurd e (rising_nolog (List.mem_of_mem_take hw) a n c)⟩
theorem t_risen (n : Nat) (d : Dsk) (fs : List Nat) (bx : Bx) (h : d.sz) (g : d.lg) : run (n + 4) 14 [dskD d, fallsD fs] bx = some (dskD (rise d fs), bx) := by
  have L : ∀ (fs : List Nat) (d : Dsk) (W o : Option D), d.sz → d.lg → (fs.foldl rise1 d).sz ∧ (fs.foldl rise1 d).lg ∧ ∃ o', forL (stepF (run (n + 3)) G (.nam 2) b_risen_l1) (fs.map fun f : Nat => D.int (f : Int)) [some (dskD d), W, o] bx = some (.nx, [some (dskD (fs.foldl rise1 d)), W, o'], bx) := by
    intro fs
    induction fs with
    | nil => exact fun d W o h g => ⟨h, g, o, rfl⟩
    | cons f fs ih =>
      intro d W o h g
      have q := rise1_sz h g f
      obtain ⟨i1, i2, o', e⟩ := ih (rise1 d f) W (some (.int (f : Int))) q.1 q.2
      refine ⟨i1, i2, o', ?_⟩
      rw [List.map_cons]
      unfold forL
      have e1 := t_rising (n + 2) d bx h
      have e2 := t_all n d ((rising d).take f) bx h (fun w hw => rising_sz g w (List.mem_of_mem_take hw)) (.lst (((rising d).take f).map wrD)) (.inl rfl)
      have st : stepF (run (n + 3)) G (.nam 2) b_risen_l1 (.int (f : Int)) [some (dskD d), W, o] bx = some (.nx, [some (dskD (rise1 d f)), W, some (.int (f : Int))], bx) := by
        simp [stepF, b_risen_l1, e1, cut_to]
        rw [← List.map_take, e2]
        rfl
      rw [st]
      exact e
  obtain ⟨i1, i2, o', e⟩ := L fs d (some (fallsD fs)) none h g
  have e1 := t_rising (n + 2) (fs.foldl rise1 d) bx i1
  have e2 := t_all n (fs.foldl rise1 d) (rising (fs.foldl rise1 d)) bx i1 (rising_sz i2) _ (.inl rfl)
  unfold fallsD at e
  simp [r_risen, b_risen, fallsD, e, e1, e2, rise]
theorem commit_sz {d : Dsk} {new : List (List Int)} (h : d.sz) (g : d.lg) (h2 : new.length ≤ 1000) (k : Nat) : (d.wrs ((writesFor d new).take k)).sz ∧ (d.wrs ((writesFor d new).take k)).lg := by
  refine ⟨wrs_sz h fun w hw => writes_sz h.2 h2 w (List.mem_of_mem_take hw), rising_lg g fun w hw a n c e => ?_⟩
  subst e
  have hw := List.mem_of_mem_take hw
  have ht := turned_len d.bl new
  have := h.2
  unfold writesFor at hw
  split at hw
  · cases hw
  · simp only [List.mem_append, List.mem_singleton] at hw
    rcases hw with ((hw | e) | hw) | e
    · obtain ⟨a, n, c, e, ha, hm⟩ := logWs_mem hw
      cases e
      have := (turned_mem hm).1
      simp only at this
      omega
    · cases e
    · obtain ⟨p, hp, e⟩ := List.mem_map.mp hw
      cases e
    · cases e
theorem t_committed (n : Nat) (d : Dsk) (new : List (List Int)) (fs : List Nat) (bx : Bx) (h : d.sz) (g : d.lg) (h2 : new.length ≤ 1000) : run (n + 5) 15 [dskD d, bsD new, fallsD fs] bx = some (dskD (commitOn d new fs), bx) := by
  have e1 := t_writes (n + 1) d new bx h.2 h2
  cases fs with
  | nil =>
    have e2 := t_all (n + 1) d (writesFor d new) bx h (writes_sz h.2 h2) _ (.inl rfl)
    have ee : eqD (.tup []) (.tup []) = some true := by decide +kernel
    simp [r_committed_on, b_committed_on, e1, e2, fallsD, ee, SZ, commitOn]
  | cons f fs =>
    have ee : eqD (.tup (.int (f : Int) :: fs.map fun f : Nat => D.int (f : Int))) (.tup []) = some false := by
      classical
      rw [eqD_pl (n := 1) (m := 1) (.tup fun x h => by
        rcases List.mem_cons.mp h with rfl | h
        · exact .int
        · obtain ⟨p, _, rfl⟩ := List.mem_map.mp h
          exact .int) (.tup fun x h => by cases h) (by decide) (by decide)]
      simp
    have q := commit_sz h g h2 f
    have e2 := t_all (n + 1) d ((writesFor d new).take f) bx h (fun w hw => writes_sz h.2 h2 w (List.mem_of_mem_take hw)) _ (.inl rfl)
    have e3 := t_risen n _ fs bx q.1 q.2
    have c1 : cutD (.int (f : Int) :: fs.map fun f : Nat => D.int (f : Int)) (some 1) none = fs.map fun f : Nat => D.int (f : Int) := cut_from1 _ 0
    unfold fallsD at e3
    simp [r_committed_on, b_committed_on, e1, fallsD, ee, SZ, commitOn, ixD, cut_to, c1]
    rw [← List.map_take, e2]
    simp [e3]

/-! ### asked ahead -/
def okF (fs : List Nat) : Prop := fs.length ≤ 10 ∧ ∀ f ∈ fs, f ≤ 10000
theorem t_falls (n : Nat) (fs : List Nat) (bx : Bx) (h : okF fs) : run (n + 2) 16 [fallsD fs] bx = some (.bl true, bx) := by
  have := h.1
  simp [r_fits_falls, b_fits_falls, fallsD, t_tuple n (fs.map fun f : Nat => D.int (f : Int)) 0 10 bx (by omega) (by rw [List.length_map]; omega)]
  rw [compL_true]
  · simp
  · intro d hd
    obtain ⟨f, hf, rfl⟩ := List.mem_map.mp hd
    have := h.2 f hf
    simp [stepC, t_whole n (f : Int) 0 10000 bx (by omega) (by omega)]
theorem t_need_disk (n : Nat) (d : Dsk) (bx : Bx) (h : d.ok) : run (n + 5) 17 [dskD d] bx = some (.non, bx) := by
  simp [r_need_disk, b_need_disk, t_disk n d bx h]
theorem t_need_rest (n : Nat) (d : Dsk) (bx : Bx) (h : d.ok) (hm : d.mark = none) : run (n + 6) 18 [dskD d] bx = some (.non, bx) := by
  have e := t_need_disk n d bx h
  simp [dskD, hm, markD] at e
  simp [r_need_rest, b_need_rest, dskD, hm, markD, e, ixD]
theorem t_need_contents (n : Nat) (bs : List (List Int)) (bx : Bx) (h : okBs bs) : run (n + 4) 19 [bsD bs] bx = some (.non, bx) := by
  simp [r_need_contents, b_need_contents, t_contents n bs bx h]
theorem t_need_falls (n : Nat) (fs : List Nat) (bx : Bx) (h : okF fs) : run (n + 3) 20 [fallsD fs] bx = some (.non, bx) := by
  simp [r_need_falls, b_need_falls, t_falls n fs bx h]
theorem Dsk.ok.sz {d : Dsk} (h : d.ok) : d.sz := ⟨h.l, h.b.2.1⟩
theorem Dsk.ok.lg {d : Dsk} (h : d.ok) : d.lg := fun p hp => by have := (h.s p hp).1; omega
theorem t_commit_on (n : Nat) (d : Dsk) (new : List (List Int)) (fs : List Nat) (bx : Bx) (h : d.ok) (hm : d.mark = none) (h2 : okBs new) (h3 : okF fs) : run (n + 7) 22 [dskD d, bsD new, fallsD fs] bx = some (dskD (commitOn d new fs), bx) := by
  simp [r_commit_on, b_commit_on, t_need_rest n d bx h hm, t_need_contents (n + 2) new bx h2, t_need_falls (n + 3) fs bx h3, t_committed (n + 1) d new fs bx h.sz h.lg h2.2.1]
theorem t_commit_writes (n : Nat) (d : Dsk) (new : List (List Int)) (bx : Bx) (h : d.ok) (hm : d.mark = none) (h2 : okBs new) : run (n + 7) 21 [dskD d, bsD new] bx = some (.tup ((writesFor d new).map wrD), bx) := by
  simp [r_commit_writes, b_commit_writes, t_need_rest n d bx h hm, t_need_contents (n + 2) new bx h2, t_writes (n + 3) d new bx h.sz.2 h2.2.1]
end Dk.K49

set_option autoImplicit false
set_option linter.all false
set_option maxRecDepth 10000
/-! What a commit with falls comes to. Own work. -/
namespace Dk.K49
open PySem Dk

def Alike (a b : List (List Int)) : Prop := ∀ n, cAt a n = cAt b n
theorem cAt_pad (bs : List (List Int)) (n m : Nat) : cAt (pad bs n) m = cAt bs m := by
  unfold cAt pad
  by_cases h : m < bs.length
  · rw [List.getElem?_append_left h]
  · rw [List.getElem?_append_right (by omega), List.getElem?_replicate, List.getElem?_eq_none (l := bs) (by omega)]
    split <;> rfl
theorem cAt_item (bs : List (List Int)) (n m : Nat) (c : List Int) : cAt (wItem (pad bs n) n c) m = if m = n then c else cAt bs m := by
  have hp := pad_len bs n
  rw [← cAt_pad bs n m]
  unfold cAt wItem
  have ht : ((pad bs n).take n).length = n := by rw [List.length_take]; omega
  by_cases h : m = n
  · subst h
    rw [if_pos rfl, List.append_assoc, List.getElem?_append_right (by omega), ht]
    simp
  · rw [if_neg h]
    by_cases h2 : m < n
    · rw [List.append_assoc, List.getElem?_append_left (by omega), List.getElem?_take_of_lt h2]
    · have : n < m := by omega
      rw [List.getElem?_append_right (by rw [List.length_append, ht]; simp; omega), List.length_append, ht, List.getElem?_drop]
      congr 2
      simp
      omega
theorem turned_nil {old new : List (List Int)} (h : turned old new = []) : Alike old new := fun n => by
  by_cases hn : n < max old.length new.length
  · by_cases he : cAt old n = cAt new n
    · exact he
    · have : (n, cAt new n) ∈ turned old new := by
        unfold turned
        exact List.mem_map.mpr ⟨n, by rw [List.mem_filter]; exact ⟨List.mem_range.mpr hn, by simpa using he⟩, rfl⟩
      rw [h] at this
      cases this
  · unfold cAt
    rw [List.getElem?_eq_none (by omega), List.getElem?_eq_none (by omega)]
theorem turned_has {old new : List (List Int)} {n : Nat} (h : cAt old n ≠ cAt new n) : (n, cAt new n) ∈ turned old new := by
  by_cases hn : n < max old.length new.length
  · unfold turned
    exact List.mem_map.mpr ⟨n, by rw [List.mem_filter]; exact ⟨List.mem_range.mpr hn, by simpa using h⟩, rfl⟩
  · exfalso
    apply h
    unfold cAt
    rw [List.getElem?_eq_none (by omega), List.getElem?_eq_none (by omega)]

/-! ### sizes kept -/
structure Good (L : Nat) (d : Dsk) : Prop where
  l : d.log.length ≤ L
  b : d.bl.length ≤ L
  b1 : 1 ≤ d.bl.length
  s : ∀ p ∈ d.log, p.1 < L ∧ okC p.2
  c : ∀ c ∈ d.bl, okC c
def Wr.good (L : Nat) : Wr → Prop
  | .mark _ => True
  | .log a n c => a < L ∧ n < L ∧ okC c
  | .block n c => n < L ∧ okC c
theorem ok_nil : okC [] := ⟨by simp, fun x h => by cases h⟩
theorem ok_at {bs : List (List Int)} (h : ∀ c ∈ bs, okC c) (n : Nat) : okC (cAt bs n) := by
  unfold cAt
  cases e : bs[n]? with
  | none => exact ok_nil
  | some c => exact h c (List.mem_of_getElem? e)
theorem wItem_mem {α : Type} {xs : List α} {i : Nat} {x y : α} (h : y ∈ wItem xs i x) : y = x ∨ y ∈ xs := by
  unfold wItem at h
  simp only [List.mem_append, List.mem_singleton] at h
  rcases h with (h | h) | h
  · exact .inr (List.mem_of_mem_take h)
  · exact .inl h
  · exact .inr (List.mem_of_mem_drop h)
theorem pad_mem {bs : List (List Int)} {n : Nat} {c : List Int} (h : c ∈ pad bs n) : c = [] ∨ c ∈ bs := by
  unfold pad at h
  rcases List.mem_append.mp h with h | h
  · exact .inr h
  · exact .inl (List.mem_replicate.mp h).2
theorem Good.wr {L : Nat} {d : Dsk} {w : Wr} (h : Good L d) (g : w.good L) : Good L (d.wr w) := by
  cases w with
  | mark m => exact ⟨h.l, h.b, h.b1, h.s, h.c⟩
  | log a n c =>
    obtain ⟨g1, g2, g3⟩ := g
    have := wItem_len d.log a (n, c)
    refine ⟨?_, h.b, h.b1, fun p hp => ?_, h.c⟩
    · show (wItem d.log a (n, c)).length ≤ L
      have := h.l
      omega
    · rcases wItem_mem hp with rfl | hp
      · exact ⟨g2, g3⟩
      · exact h.s p hp
  | block n c =>
    obtain ⟨g1, g2⟩ := g
    have h1 := wItem_len (pad d.bl n) n c
    have h2 := pad_len d.bl n
    refine ⟨h.l, ?_, ?_, h.s, fun x hx => ?_⟩
    · show (wItem (pad d.bl n) n c).length ≤ L
      have := h.b
      omega
    · show 1 ≤ (wItem (pad d.bl n) n c).length
      simp only [wItem, List.length_append, List.length_cons]
      omega
    · rcases wItem_mem hx with rfl | hx
      · exact g2
      · rcases pad_mem hx with rfl | hx
        · exact ok_nil
        · exact h.c x hx
theorem Good.wrs {L : Nat} : ∀ {ws : List Wr} {d : Dsk}, Good L d → (∀ w ∈ ws, w.good L) → Good L (d.wrs ws)
  | [], _, h, _ => h
  | w :: ws, d, h, g => Good.wrs (ws := ws) (d := d.wr w) (h.wr (g w (List.mem_cons_self ..))) fun v hv => g v (List.mem_cons_of_mem _ hv)
theorem Good.up {L M : Nat} {d : Dsk} (h : Good L d) (e : L ≤ M) : Good M d := ⟨Nat.le_trans h.l e, Nat.le_trans h.b e, h.b1, fun p hp => ⟨Nat.lt_of_lt_of_le (h.s p hp).1 e, (h.s p hp).2⟩, h.c⟩
theorem Good.ok {L : Nat} {d : Dsk} (h : Good L d) (e : L ≤ 1000) (hm : d.mark = none) : d.ok :=
  ⟨fun k hk => (by rw [hm] at hk; cases hk), Nat.le_trans h.l e, fun p hp => ⟨by have := (h.s p hp).1; omega, (h.s p hp).2⟩, ⟨h.b1, Nat.le_trans h.b e, h.c⟩⟩
theorem writes_good {L : Nat} {d : Dsk} {new : List (List Int)} (h1 : d.bl.length ≤ L) (h2 : new.length ≤ L) (hc : ∀ c ∈ new, okC c) : ∀ w ∈ writesFor d new, w.good L := fun w hw => by
  have ht := turned_len d.bl new
  unfold writesFor at hw
  split at hw
  · cases hw
  · simp only [List.mem_append, List.mem_singleton] at hw
    rcases hw with ((hw | rfl) | hw) | rfl
    · obtain ⟨a, n, c, rfl, ha, hm⟩ := logWs_mem hw
      obtain ⟨q1, q2, _⟩ := turned_mem hm
      simp only at q1 q2
      refine ⟨by omega, by omega, ?_⟩
      rw [q2]
      exact ok_at hc n
    · trivial
    · obtain ⟨p, hp, rfl⟩ := List.mem_map.mp hw
      obtain ⟨q1, q2, _⟩ := turned_mem hp
      refine ⟨by omega, ?_⟩
      rw [q2]
      exact ok_at hc p.1
    · trivial
theorem rising_good {L : Nat} {d : Dsk} (h : Good L d) : ∀ w ∈ rising d, w.good L := fun w hw => by
  unfold rising at hw
  split at hw
  · cases hw
  · simp only [List.mem_append, List.mem_singleton] at hw
    rcases hw with hw | rfl
    · obtain ⟨p, hp, rfl⟩ := List.mem_map.mp hw
      exact h.s p (List.mem_of_mem_take hp)
    · trivial
theorem rise1_good {L : Nat} {d : Dsk} (h : Good L d) (f : Nat) : Good L (rise1 d f) := h.wrs fun w hw => rising_good h w (List.mem_of_mem_take hw)
theorem rises_good {L : Nat} : ∀ (fs : List Nat) {d : Dsk}, Good L d → Good L (fs.foldl rise1 d)
  | [], _, h => h
  | f :: fs, _, h => rises_good fs (rise1_good h f)
theorem rise_good {L : Nat} {d : Dsk} (h : Good L d) (fs : List Nat) : Good L (rise d fs) := (rises_good fs h).wrs (rising_good (rises_good fs h))
theorem commit_good {L : Nat} {d : Dsk} {new : List (List Int)} (h : Good L d) (h2 : new.length ≤ L) (hc : ∀ c ∈ new, okC c) (fs : List Nat) : Good L (commitOn d new fs) := by
  cases fs with
  | nil => exact h.wrs (writes_good h.b h2 hc)
  | cons f fs => exact rise_good (h.wrs fun w hw => writes_good h.b h2 hc w (List.mem_of_mem_take hw)) fs

/-! ### what is there behind -/
theorem wrs_app (d : Dsk) (a b : List Wr) : d.wrs (a ++ b) = (d.wrs a).wrs b := List.foldl_append
theorem wrs_bl : ∀ (t : List (Nat × List Int)) (d : Dsk), (d.wrs (blWs t)).mark = d.mark ∧ (d.wrs (blWs t)).log = d.log
  | [], d => ⟨rfl, rfl⟩
  | p :: t, d => by
    have := wrs_bl t (d.wr (.block p.1 p.2))
    exact ⟨this.1, this.2⟩
theorem bl_at {new : List (List Int)} : ∀ (t : List (Nat × List Int)) (d : Dsk), (∀ p ∈ t, p.2 = cAt new p.1) → ∀ m, (cAt (d.wrs (blWs t)).bl m = cAt d.bl m ∨ cAt (d.wrs (blWs t)).bl m = cAt new m) ∧ (((∃ c, (m, c) ∈ t) ∨ cAt d.bl m = cAt new m) → cAt (d.wrs (blWs t)).bl m = cAt new m)
  | [], d, _, m => ⟨.inl rfl, fun h => by
    rcases h with ⟨c, h⟩ | h
    · cases h
    · exact h⟩
  | p :: t, d, h, m => by
    have ih := bl_at t (d.wr (.block p.1 p.2)) (fun q hq => h q (List.mem_cons_of_mem _ hq)) m
    have e : cAt (d.wr (.block p.1 p.2)).bl m = if m = p.1 then p.2 else cAt d.bl m := cAt_item d.bl p.1 m p.2
    have hp := h p (List.mem_cons_self ..)
    show (cAt ((d.wr (.block p.1 p.2)).wrs (blWs t)).bl m = cAt d.bl m ∨ cAt ((d.wr (.block p.1 p.2)).wrs (blWs t)).bl m = cAt new m) ∧ (_ → cAt ((d.wr (.block p.1 p.2)).wrs (blWs t)).bl m = cAt new m)
    by_cases hm : m = p.1
    · subst hm
      rw [if_pos rfl, hp] at e
      have := ih.2 (.inr (by rw [hp]; exact e))
      exact ⟨.inr this, fun _ => this⟩
    · rw [if_neg hm] at e
      rw [e] at ih
      refine ⟨ih.1, fun q => ih.2 ?_⟩
      rcases q with ⟨c, q⟩ | q
      · rcases List.mem_cons.mp q with q | q
        · exact absurd (congrArg Prod.fst q) hm
        · exact .inl ⟨c, q⟩
      · exact .inr q
theorem wrs_log : ∀ (t : List (Nat × List Int)) (k : Nat) (d : Dsk), k ≤ d.log.length → (d.wrs ((t.zipIdx k).map fun p => .log p.2 p.1.1 p.1.2)).mark = d.mark ∧ (d.wrs ((t.zipIdx k).map fun p => .log p.2 p.1.1 p.1.2)).bl = d.bl ∧ (d.wrs ((t.zipIdx k).map fun p => .log p.2 p.1.1 p.1.2)).log.take (k + t.length) = d.log.take k ++ t
  | [], k, d, h => ⟨rfl, rfl, by simp [Dsk.wrs]⟩
  | p :: t, k, d, h => by
    have hl : (d.wr (.log k p.1 p.2)).log = wItem d.log k p := rfl
    have ht : (d.log.take k).length = k := by rw [List.length_take]; omega
    obtain ⟨a, b, c⟩ := wrs_log t (k + 1) (d.wr (.log k p.1 p.2)) (by rw [hl]; simp only [wItem, List.length_append, List.length_cons, ht]; omega)
    refine ⟨a, b, ?_⟩
    rw [hl] at c
    have e : (wItem d.log k p).take (k + 1) = d.log.take k ++ [p] := by
      unfold wItem
      rw [List.take_append_of_le_length (by simp [ht])]
      exact List.take_of_length_le (by simp [ht])
    rw [e] at c
    rw [List.length_cons, show k + (t.length + 1) = k + 1 + t.length by omega]
    refine c.trans ?_
    simp
/-- behind the mark: the log stands, some blocks are written -/
def Mid (old new : List (List Int)) (d : Dsk) : Prop := d.mark = some (turned old new).length ∧ d.log.take (turned old new).length = turned old new ∧ ∀ m, cAt d.bl m = cAt old m ∨ cAt d.bl m = cAt new m
def Done (new : List (List Int)) (d : Dsk) : Prop := d.mark = none ∧ Alike d.bl new
theorem done_rising {d : Dsk} (h : d.mark = none) : rising d = [] := by unfold rising; rw [h]
theorem rest_rise1 {d : Dsk} (h : d.mark = none) (f : Nat) : rise1 d f = d := by
  unfold rise1
  rw [done_rising h, List.take_nil]
  rfl
theorem rest_rises {d : Dsk} (h : d.mark = none) : ∀ (fs : List Nat), fs.foldl rise1 d = d
  | [] => rfl
  | f :: fs => by rw [List.foldl_cons, rest_rise1 h, rest_rises h fs]
theorem rest_rise {d : Dsk} (h : d.mark = none) (fs : List Nat) : rise d fs = d := by
  unfold rise
  rw [rest_rises h, done_rising h]
  rfl
section
variable {old new : List (List Int)}
theorem take_split {α : Type} {a : List α} {b : List α} (n : Nat) : (a ++ b).take n = a.take n ∨ ∃ m, n = a.length + m ∧ (a ++ b).take n = a ++ b.take m := by
  by_cases h : n ≤ a.length
  · exact .inl (List.take_append_of_le_length h)
  · refine .inr ⟨n - a.length, by omega, ?_⟩
    rw [List.take_append, List.take_of_length_le (by omega)]
theorem turned_new {p : Nat × List Int} (h : p ∈ turned old new) : p.2 = cAt new p.1 := (turned_mem h).2.1
/-- some of the blocks, or all and the mark taken away -/
theorem mid_step {d : Dsk} (h : Mid old new d) (n : Nat) : (Mid old new (d.wrs ((blWs (turned old new) ++ [Wr.mark none]).take n)) ∨ Done new (d.wrs ((blWs (turned old new) ++ [Wr.mark none]).take n))) ∧ (n ≥ (turned old new).length + 1 → Done new (d.wrs ((blWs (turned old new) ++ [Wr.mark none]).take n))) := by
  have part : ∀ s : List (Nat × List Int), (∀ p ∈ s, p ∈ turned old new) → Mid old new (d.wrs (blWs s)) := fun s hs => by
    have hb := bl_at s d (fun p hp => turned_new (hs p hp))
    have hm := wrs_bl s d
    refine ⟨hm.1.trans h.1, by rw [hm.2]; exact h.2.1, fun m => ?_⟩
    rcases (hb m).1 with e | e
    · rw [e]; exact h.2.2 m
    · exact .inr e
  have whole : Done new (d.wrs (blWs (turned old new) ++ [Wr.mark none])) := by
    rw [wrs_app]
    refine ⟨rfl, fun m => ?_⟩
    have hb := bl_at (turned old new) d (fun p hp => turned_new hp) m
    show cAt (d.wrs (blWs (turned old new))).bl m = cAt new m
    apply hb.2
    by_cases he : cAt old m = cAt new m
    · right
      rcases h.2.2 m with e | e
      · rw [e, he]
      · exact e
    · exact .inl ⟨_, turned_has he⟩
  have hl : (blWs (turned old new)).length = (turned old new).length := List.length_map _
  have full : n ≥ (turned old new).length + 1 → Done new (d.wrs ((blWs (turned old new) ++ [Wr.mark none]).take n)) := fun hn => by
    rw [List.take_of_length_le (by rw [List.length_append, hl]; simp; omega)]
    exact whole
  refine ⟨?_, full⟩
  by_cases hn : n ≥ (turned old new).length + 1
  · exact .inr (full hn)
  · left
    rw [List.take_append_of_le_length (by rw [hl]; omega)]
    unfold blWs
    rw [← List.map_take]
    exact part _ fun p hp => List.mem_of_mem_take hp
theorem mid_rising {d : Dsk} (h : Mid old new d) : rising d = blWs (turned old new) ++ [Wr.mark none] := by
  unfold rising
  rw [h.1]
  simp only
  rw [h.2.1]
theorem either_rise1 {d : Dsk} (h : Mid old new d ∨ Done new d) (f : Nat) : Mid old new (rise1 d f) ∨ Done new (rise1 d f) := by
  rcases h with h | h
  · unfold rise1
    rw [mid_rising h]
    exact (mid_step h f).1
  · rw [rest_rise1 h.1]
    exact .inr h
theorem either_rises : ∀ (fs : List Nat) {d : Dsk}, Mid old new d ∨ Done new d → Mid old new (fs.foldl rise1 d) ∨ Done new (fs.foldl rise1 d)
  | [], _, h => h
  | f :: fs, _, h => either_rises fs (either_rise1 h f)
theorem either_rise {d : Dsk} (h : Mid old new d ∨ Done new d) (fs : List Nat) : Done new (rise d fs) := by
  unfold rise
  rcases either_rises fs h with g | g
  · rw [mid_rising g]
    have := (mid_step g ((turned old new).length + 1)).2 (Nat.le_refl _)
    rwa [List.take_of_length_le (by simp [blWs])] at this
  · rw [done_rising g.1]
    exact g
end
theorem take_zip {α : Type} : ∀ (t : List α) (k f : Nat), (t.zipIdx k).take f = (t.take f).zipIdx k
  | [], _, _ => by simp
  | a :: t, k, 0 => rfl
  | a :: t, k, f + 1 => by simp [take_zip t (k + 1) f]
theorem logWs_take (t : List (Nat × List Int)) (f : Nat) : (logWs t).take f = logWs (t.take f) := by
  unfold logWs
  rw [← List.map_take, take_zip]
/-- the first writes of a commit -/
theorem first_writes {d : Dsk} {new : List (List Int)} (hm : d.mark = none) (ht : turned d.bl new ≠ []) (f : Nat) :
    (f ≤ (turned d.bl new).length → (d.wrs ((writesFor d new).take f)).mark = none ∧ (d.wrs ((writesFor d new).take f)).bl = d.bl) ∧
    ((turned d.bl new).length < f → Mid d.bl new (d.wrs ((writesFor d new).take f)) ∨ Done new (d.wrs ((writesFor d new).take f))) := by
  have ll : (logWs (turned d.bl new)).length = (turned d.bl new).length := by simp [logWs]
  have e : writesFor d new = logWs (turned d.bl new) ++ ([Wr.mark (some (turned d.bl new).length)] ++ (blWs (turned d.bl new) ++ [Wr.mark none])) := by
    unfold writesFor
    rw [if_neg ht]
    simp
  refine ⟨fun h => ?_, fun h => ?_⟩
  · rw [e, List.take_append_of_le_length (by omega), logWs_take]
    have := wrs_log ((turned d.bl new).take f) 0 d (Nat.zero_le _)
    exact ⟨this.1.trans hm, this.2.1⟩
  · have q := wrs_log (turned d.bl new) 0 d (Nat.zero_le _)
    have mid : Mid d.bl new ((d.wrs (logWs (turned d.bl new))).wr (.mark (some (turned d.bl new).length))) := by
      refine ⟨rfl, ?_, fun m => .inl (by show cAt (d.wrs (logWs (turned d.bl new))).bl m = _; unfold logWs; rw [q.2.1])⟩
      have := q.2.2
      rw [Nat.zero_add, List.take_zero, List.nil_append] at this
      exact this
    obtain ⟨g, rfl⟩ : ∃ g, f = (turned d.bl new).length + (1 + g) := ⟨f - (turned d.bl new).length - 1, by omega⟩
    have e2 : (writesFor d new).take ((turned d.bl new).length + (1 + g)) = logWs (turned d.bl new) ++ ([Wr.mark (some (turned d.bl new).length)] ++ (blWs (turned d.bl new) ++ [Wr.mark none]).take g) := by
      rw [e, ← ll, List.take_length_add_append, Nat.add_comm 1 g]
      rfl
    rw [e2, wrs_app, wrs_app]
    exact (mid_step mid g).1
theorem writes_len (d : Dsk) (new : List (List Int)) : (writesFor d new).length = if turned d.bl new = [] then 0 else 2 * (turned d.bl new).length + 2 := by
  unfold writesFor
  split
  · rfl
  · simp [logWs, blWs]
    omega
/-- THE COMMIT: at rest behind it; the old blocks or the new ones, by the place of the first fall -/
theorem commit_law {d : Dsk} {new : List (List Int)} (hm : d.mark = none) (fs : List Nat) :
    (commitOn d new fs).mark = none ∧ ((fs = [] ∨ (writesFor d new).length = 0 ∨ ∃ f r, fs = f :: r ∧ (writesFor d new).length < 2 * f + 2) → Alike (commitOn d new fs).bl new) ∧
    ((∃ f r, fs = f :: r ∧ 2 * f + 2 ≤ (writesFor d new).length) → (commitOn d new fs).bl = d.bl) ∧ ((writesFor d new).length = 0 → commitOn d new fs = d) := by
  by_cases ht : turned d.bl new = []
  · have e : writesFor d new = [] := by unfold writesFor; rw [if_pos ht]
    have c : commitOn d new fs = d := by
      cases fs with
      | nil => unfold commitOn; rw [e]; rfl
      | cons f fs =>
        show rise (d.wrs ((writesFor d new).take f)) fs = d
        rw [e, List.take_nil]
        exact rest_rise hm fs
    rw [c, e]
    exact ⟨hm, fun _ => turned_nil ht, fun ⟨f, r, _, h⟩ => by simp at h, fun _ => rfl⟩
  · have wl := writes_len d new
    rw [if_neg ht] at wl
    cases fs with
    | nil =>
      have q := (first_writes hm ht (writesFor d new).length).2 (by omega)
      rw [List.take_length] at q
      have dn : Done new (d.wrs (writesFor d new)) := by
        rcases q with q | q
        · exfalso
          have : (d.wrs (writesFor d new)).mark = none := by
            have e : writesFor d new = (logWs (turned d.bl new) ++ [Wr.mark (some (turned d.bl new).length)] ++ blWs (turned d.bl new)) ++ [Wr.mark none] := by
              unfold writesFor
              rw [if_neg ht]
            rw [e, wrs_app]
            rfl
          rw [q.1] at this
          cases this
        · exact q
      exact ⟨dn.1, fun _ => dn.2, fun ⟨f, r, h, _⟩ => (by cases h), fun h => by omega⟩
    | cons f fs =>
      have q := first_writes hm ht f
      by_cases hf : f ≤ (turned d.bl new).length
      · have q := q.1 hf
        have c : commitOn d new (f :: fs) = d.wrs ((writesFor d new).take f) := rest_rise q.1 fs
        rw [c]
        refine ⟨q.1, fun h => ?_, fun _ => q.2, fun h => by omega⟩
        rcases h with h | h | ⟨f', r, h, h2⟩
        · cases h
        · omega
        · cases h
          omega
      · have q := either_rise (q.2 (by omega)) fs
        refine ⟨q.1, fun _ => q.2, fun ⟨f', r, h, h2⟩ => ?_, fun h => by omega⟩
        cases h
        omega
end Dk.K49

set_option autoImplicit false
set_option linter.all false
set_option maxRecDepth 10000
/-! What the law draws. Own work. -/
namespace Dk.K49
open PySem Dk

theorem t_cup (n : Nat) (ns : List Int) (bx : Bx) (h : ns.length ≤ 63) : ∃ a b : Int, run (n + 1) 23 [.scr (ns.map D.int)] bx = some (.lst [.int a, .int b], bx) := by
  have hs : SZ = 16777216 := rfl
  have key : ∀ i : Int, ∃ a b : Int, (if 1000000000000000000 ≤ (if i < 0 then -i else i) then (if i < 0 then -i else i) / 113 else 0) = a ∧ ((if i < 0 then -i else i) * 349 + 3803) % 2077503011 + 227 = b := fun i => ⟨_, _, rfl, rfl⟩
  cases ns with
  | nil => exact ⟨0, 3803 + 227, by simp [r__law_cup, b__law_cup, hs, ixD, mulOk]⟩
  | cons i ns =>
    have hl : ns.length + 1 ≤ 63 := h
    have c1 : ns.length + 1 + 1 ≤ 16777216 := by omega
    have c3 : ns.length + 1 ≤ 16777215 := by omega
    have c2 : ixD (ns.length + 1 + 1) 0 = some 0 := by
      unfold ixD
      rw [if_pos (by omega), if_pos (by omega)]
      rfl
    by_cases h3 : (1000000000000000000 : Int) ≤ (if i < 0 then -i else i)
    · exact ⟨(if i < 0 then -i else i) / 113, ((if i < 0 then -i else i) * 349 + 3803) % 2077503011 + 227, by simp [r__law_cup, b__law_cup, hs, c1, c2, c3, h3, mulOk]⟩
    · exact ⟨0, ((if i < 0 then -i else i) * 349 + 3803) % 2077503011 + 227, by simp [r__law_cup, b__law_cup, hs, c1, c2, c3, h3, mulOk]⟩
theorem t_roll (n m : Nat) (bx : Bx) (h : Cup bx) (h1 : 0 < m) (h2 : m < 1073741824) : ∃ (r : Nat) (bx' : Bx), run (n + 1) 24 [.ref 0, .int (m : Int)] bx = some (.int (r : Int), bx') ∧ Cup bx' ∧ r < m := by
  obtain ⟨a, b, rfl⟩ := h
  have c0 : ixD 2 0 = some 0 := rfl
  have c1 : ixD 2 1 = some 1 := rfl
  have nn : ∀ x : Int, ∃ r : Nat, x % (m : Int) = (r : Int) ∧ r < m := fun x => by
    have h3 := Int.emod_nonneg x (b := (m : Int)) (by omega)
    have h4 := Int.emod_lt_of_pos x (b := (m : Int)) (by omega)
    exact ⟨(x % (m : Int)).toNat, by omega, by omega⟩
  have hm : (0 : Int) < (m : Int) := by omega
  have hm2 : (m : Int) < 1073741824 := by omega
  by_cases ha : 0 < a
  · obtain ⟨r, e, hr⟩ := nn a
    refine ⟨r, _, ?_, ⟨a / (m : Int), b, rfl⟩, hr⟩
    simp [r__law_roll, b__law_roll, c0, ha, h1, hm, hm2, h2, e]
  · obtain ⟨b', eb⟩ : ∃ b', b' = (b * 31151 + 8101) % 2147483237 := ⟨_, rfl⟩
    have hb0 : 0 ≤ b' := by rw [eb]; exact Int.emod_nonneg _ (by decide)
    have hb1 : b' < 2147483237 := by rw [eb]; exact Int.emod_lt_of_pos _ (by decide)
    obtain ⟨r, e, hr⟩ := nn (b' * (b' + 283) % 2147483587 / 883)
    have hk : mulOk b' (b' + 283) := .inl ⟨by omega, by omega⟩
    refine ⟨r, _, ?_, ⟨a, b', rfl⟩, hr⟩
    simp [r__law_roll, b__law_roll, c0, c1, ha, mulOk, ← eb]
    have hk1 : -18446744073709551616 < b' ∧ b' < 18446744073709551616 := ⟨by omega, by omega⟩
    simp [hk1, h1, e]
theorem t_some (n : Nat) (ds : List D) (bx : Bx) (h : Cup bx) (h1 : ds ≠ []) (h2 : ds.length < 1073741824) : ∃ (x : D) (bx' : Bx), run (n + 2) 25 [.ref 0, .lst ds] bx = some (x, bx') ∧ Cup bx' ∧ x ∈ ds := by
  obtain ⟨r, bx', e, c, hr⟩ := t_roll n ds.length bx h (List.length_pos_iff.mpr h1) h2
  refine ⟨ds[r], bx', ?_, c, List.getElem_mem hr⟩
  simp [r__law_some, b__law_some, e, ix_nat hr, hr]
theorem t_draw (n : Nat) (bx : Bx) (h : Cup bx) : ∃ (c : List Int) (bx' : Bx), run (n + 3) 26 [.ref 0] bx = some (cD c, bx') ∧ Cup bx' ∧ okC c := by
  obtain ⟨x, bx1, e1, c1, hx⟩ := t_some n [.int 0, .int 0, .int 1, .int 2, .int 3] bx h (by simp) (by simp)
  obtain ⟨k, rfl, hk⟩ : ∃ k : Nat, x = .int (k : Int) ∧ k ≤ 3 := by
    simp only [List.mem_cons, List.not_mem_nil, or_false] at hx
    rcases hx with rfl | rfl | rfl | rfl | rfl
    all_goals first | exact ⟨0, rfl, by omega⟩ | exact ⟨1, rfl, by omega⟩ | exact ⟨2, rfl, by omega⟩ | exact ⟨3, rfl, by omega⟩
  obtain ⟨r, bx2, e2, c2, hl, hp⟩ := compL_all (step := stepC (run (n + 2)) G (.nam 1) .nil (.call 24 (.cons (.var 0) (.cons (.con (.int 256)) .nil))) [1] [some (.ref 0), none]) (I := Cup) (P := fun y => ∃ i : Int, y = .int i ∧ 0 ≤ i ∧ i ≤ 255) (ds := rangeD 0 k) (fun d hd bx hb => by
    obtain ⟨q, bx', e, c, hq⟩ := t_roll (n + 1) 256 bx hb (by decide) (by decide)
    have e : run (n + 2) 24 [.ref 0, .int 256] bx = some (.int (q : Int), bx') := e
    exact ⟨.int (q : Int), bx', by simp [stepC, e], c, _, rfl, by omega, by omega⟩) c1
  obtain ⟨is, rfl, hi⟩ := all_map hp
  refine ⟨is, bx2, ?_, c2, ?_, hi⟩
  · have hk2 : (k : Int) ≤ 16777216 := by omega
    have hk3 : (-1000000000 : Int) ≤ k := by omega
    simp [r__law_content, b__law_content, SZ, e1, hk2, hk3, e2, cD]
  · rw [List.length_map, range_len] at hl
    omega
theorem t_draws (n m : Nat) (bx : Bx) (h : Cup bx) (h1 : 0 < m) (h2 : m < 1000000) : ∃ (bs : List (List Int)) (bx' : Bx), run (n + 4) 27 [.ref 0, .int (m : Int)] bx = some (bsD bs, bx') ∧ Cup bx' ∧ 1 ≤ bs.length ∧ bs.length ≤ m ∧ ∀ c ∈ bs, okC c := by
  obtain ⟨k, bx1, e1, c1, hk⟩ := t_roll (n + 2) m bx h h1 (by omega)
  obtain ⟨r, bx2, e2, c2, hl, hp⟩ := compL_all (step := stepC (run (n + 3)) G (.nam 2) .nil (.call 26 (.cons (.var 0) .nil)) [2] [some (.ref 0), some (.int (m : Int)), none]) (I := Cup) (P := fun y => ∃ c : List Int, y = cD c ∧ okC c) (ds := rangeD 0 (1 + k)) (fun d hd bx hb => by
    obtain ⟨q, bx', e, c, hq⟩ := t_draw n bx hb
    exact ⟨_, bx', by simp [stepC, e], c, _, rfl, hq⟩) c1
  obtain ⟨bs, rfl, hi⟩ := all_map hp
  rw [List.length_map, range_len] at hl
  refine ⟨bs, bx2, ?_, c2, by omega, by omega, hi⟩
  have hk2 : (1 + k : Int) ≤ 16777216 := by omega
  have hk3 : (-1000000000 : Int) ≤ 1 + k := by omega
  have hk4 : ((1 : Int) + k).toNat = 1 + k := by omega
  simp [r__law_contents, b__law_contents, e1, hk2, hk3, hk4, e2, bsD]
theorem t_near (n : Nat) (bs : List (List Int)) (bx : Bx) (h : Cup bx) (h1 : 1 ≤ bs.length) (h2 : bs.length ≤ 1000) (h3 : ∀ c ∈ bs, okC c) : ∃ (new : List (List Int)) (bx' : Bx), run (n + 4) 28 [.ref 0, bsD bs] bx = some (bsD new, bx') ∧ Cup bx' ∧ 1 ≤ new.length ∧ new.length ≤ bs.length + 2 ∧ ∀ c ∈ new, okC c := by
  have hs : SZ = 16777216 := rfl
  obtain ⟨r, bx2, e2, c2, hl, hp⟩ := compL_all (step := stepC (run (n + 3)) G (.nam 3) .nil (.ite (.cmp .eq (.call 24 (.cons (.var 0) (.cons (.con (.int 3)) .nil))) (.con (.int 0))) (.call 26 (.cons (.var 0) .nil)) (.var 3)) [3] [some (.ref 0), some (bsD bs), none, none]) (I := Cup) (P := fun y => ∃ c : List Int, y = cD c ∧ okC c) (ds := bs.map cD) (fun d hd bx hb => by
    obtain ⟨c0, hc0, rfl⟩ := List.mem_map.mp hd
    obtain ⟨q, bx', e, c, hq⟩ := t_roll (n + 2) 3 bx hb (by decide) (by decide)
    have e : run (n + 3) 24 [.ref 0, .int 3] bx = some (.int (q : Int), bx') := e
    by_cases h0 : q = 0
    · obtain ⟨c5, bx5, e5, k5, o5⟩ := t_draw n bx' c
      subst h0
      exact ⟨_, bx5, by simp [stepC, e, e5], k5, _, rfl, o5⟩
    · exact ⟨cD c0, bx', by simp [stepC, e, h0], c, _, rfl, h3 c0 hc0⟩) h
  obtain ⟨fs, rfl, hi⟩ := all_map hp
  rw [List.length_map, List.length_map] at hl
  obtain ⟨d1, bx3, e3, c3, o3⟩ := t_draw n bx2 c2
  obtain ⟨d2, bx4, e4, c4, o4⟩ := t_draw n bx3 c3
  obtain ⟨x, bx5, e5, c5, hx⟩ := t_some (n + 1) [.lst (fs.map cD), .lst (fs.map cD), .lst (fs.map cD ++ [cD d1, cD d2]), .lst ((fs.take 1).map cD)] bx4 c4 (by simp) (by simp)
  obtain ⟨new, rfl, q1, q2, q3⟩ : ∃ new : List (List Int), x = .lst (new.map cD) ∧ 1 ≤ new.length ∧ new.length ≤ bs.length + 2 ∧ ∀ c ∈ new, okC c := by
    simp only [List.mem_cons, List.not_mem_nil, or_false] at hx
    rcases hx with rfl | rfl | rfl | rfl
    · exact ⟨fs, rfl, by omega, by omega, hi⟩
    · exact ⟨fs, rfl, by omega, by omega, hi⟩
    · refine ⟨fs ++ [d1, d2], by simp, by simp, by simp; omega, fun c hc => ?_⟩
      simp only [List.mem_append, List.mem_cons, List.not_mem_nil, or_false] at hc
      rcases hc with hc | rfl | rfl
      · exact hi c hc
      · exact o3
      · exact o4
    · exact ⟨fs.take 1, rfl, by rw [List.length_take]; omega, by rw [List.length_take]; omega, fun c hc => hi c (List.mem_of_mem_take hc)⟩
  have hb : fs.length + 2 ≤ 16777216 := by omega
  have c1 : cutD (fs.map cD) none (some 1) = (fs.take 1).map cD := by rw [List.map_take]; exact cut_to (fs.map cD) 1
  have hi2 : itemsD (bsD bs) = some (bs.map cD) := rfl
  refine ⟨new, bx5, ?_, c5, q1, q2, q3⟩
  unfold bsD at e2
  simp [r__law_near_contents, b__law_near_contents, hs, hb, c1, bsD]
  rw [e2]
  simp [e3, e4, hs, hb, c1, bsD]
  simp at e5
  simp [e5]
end Dk.K49

set_option autoImplicit false
set_option linter.all false
set_option maxRecDepth 10000
/-! What the law asks of disks. Own work. -/
namespace Dk.K49
open PySem Dk

theorem t_lat (n : Nat) (bs : List (List Int)) (k : Nat) (bx : Bx) : run (n + 1) 31 [bsD bs, .int (k : Int)] bx = some (cD (cAt bs k), bx) := by
  simp only [r__law_at, b__law_at, bsD]
  by_cases h : k < bs.length
  · simp [h, ix_nat, cAt]
  · simp [h, cAt, List.getElem?_eq_none (Nat.le_of_not_lt h), SZ]
    rfl
def nums (old new : List (List Int)) : List Nat := (List.range (max old.length new.length)).filter fun n => decide (cAt old n ≠ cAt new n)
theorem nums_len (old new : List (List Int)) : (turned old new).length = (nums old new).length := by simp [turned, nums]
theorem nums_nil {old new : List (List Int)} : nums old new = [] ↔ Alike old new := by
  constructor
  · intro h
    apply turned_nil
    have := nums_len old new
    rw [h] at this
    exact List.length_eq_zero_iff.mp this
  · intro h
    unfold nums
    rw [List.filter_eq_nil_iff]
    intro n _
    simp [h n]
def numsD (old new : List (List Int)) : List D := (nums old new).map fun i : Nat => D.int (i : Int)
theorem eqD_nums (ns : List Nat) : eqD (.lst (ns.map fun i : Nat => D.int (i : Int))) (.lst []) = some (decide (ns = [])) := by
  classical
  rw [eqD_pl (n := 1) (m := 1) (.lst fun x h => by
    obtain ⟨p, _, rfl⟩ := List.mem_map.mp h
    exact .int) (.lst fun x h => by cases h) (by decide) (by decide)]
  exact congrArg some (decide_eq_decide.mpr ⟨fun e => by simpa using e, fun h => by rw [h]; rfl⟩)
theorem max_int (a b : Nat) : (if a < b then (b : Int) else (a : Int)) = ((max a b : Nat) : Int) := by
  split <;> omega
theorem t_alike (n : Nat) (one other : List (List Int)) (bx : Bx) (h1 : one.length ≤ 1000) (h2 : other.length ≤ 1000) : run (n + 2) 32 [bsD one, bsD other] bx = some (.bl (decide (nums one other = [])), bx) := by
  have hs : SZ = 16777216 := rfl
  have em := max_int one.length other.length
  simp [r__law_alike_blocks, b__law_alike_blocks, bsD]
  rw [em]
  simp
  have c1 : ((one.length : Int) ≤ 16777216 ∧ (other.length : Int) ≤ 16777216) ∧ (-1000000000 ≤ (one.length : Int) ∨ -1000000000 ≤ (other.length : Int)) := by omega
  have c2 : max (one.length : Int) (other.length : Int) ≤ 16777216 ∧ -1000000000 ≤ max (one.length : Int) (other.length : Int) := by omega
  have c3 : (max (one.length : Int) (other.length : Int)).toNat = max one.length other.length := by omega
  rw [if_pos (by omega)]
  simp
  rw [range_map0, compL_ifT _ (fun i => decide (cAt one i ≠ cAt other i)) (fun i : Nat => D.int (i : Int))]
  · rw [show (List.filter (fun i => decide (cAt one i ≠ cAt other i)) (List.range (max one.length other.length))) = nums one other from rfl]
    simp [hs, eqD_nums]
  · intro i hi
    have a1 := t_lat n one i bx
    have a2 := t_lat n other i bx
    unfold bsD at a1 a2
    by_cases he : cAt one i = cAt other i <;> simp [stepC, a1, a2, eqD_c, he]
theorem t_lcommit (n : Nat) (d : Dsk) (new : List (List Int)) (bx : Bx) (h1 : d.bl.length ≤ 1000) (h2 : new.length ≤ 1000) : run (n + 2) 35 [dskD d, bsD new] bx = some (.lst ((writesFor d new).map wrD), bx) := by
  have hs : SZ = 16777216 := rfl
  have em := max_int d.bl.length new.length
  have hn : (nums d.bl new).length ≤ max d.bl.length new.length := by rw [← nums_len]; exact turned_len _ _
  have hi1 : ixD 3 2 = some 2 := rfl
  have c2 : (max (d.bl.length : Int) (new.length : Int)) ≤ 16777216 ∧ -1000000000 ≤ max (d.bl.length : Int) (new.length : Int) := by omega
  have e1 : compL (stepC (run (n + 1)) G (.nam 6) (.cons (.cmp .ne (.call 31 (.cons (.var 4) (.cons (.var 6) .nil))) (.call 31 (.cons (.var 1) (.cons (.var 6) .nil)))) .nil) (.var 6) [6] [some (dskD d), some (bsD new), none, none, some (bsD d.bl), some (.lst []), none, none]) (rangeD 0 (max d.bl.length new.length)) bx = some (numsD d.bl new, bx) := by
    rw [range_map0, compL_ifT _ (fun i => decide (cAt d.bl i ≠ cAt new i)) (fun i : Nat => D.int (i : Int))]
    · rfl
    · intro i hi
      have a1 := t_lat n d.bl i bx
      have a2 := t_lat n new i bx
      by_cases he : cAt d.bl i = cAt new i <;> simp [stepC, a1, a2, eqD_c, he]
  have L : ∀ (ns : List Nat) (k : Nat) (r : List D) (o6 o7 : Option D), r.length + ns.length ≤ 1000 → ∃ o6' o7', forL (stepF (run (n + 1)) G (.tup (.cons (.nam 6) (.cons (.nam 7) .nil))) b__law_commit_l1) (enumD k (ns.map fun i : Nat => D.int (i : Int))) [some (dskD d), some (bsD new), some (.lst (numsD d.bl new)), none, some (bsD d.bl), some (.lst r), o6, o7] bx = some (.nx, [some (dskD d), some (bsD new), some (.lst (numsD d.bl new)), none, some (bsD d.bl), some (.lst (r ++ (ns.zipIdx k).map fun p => wrD (.log p.2 p.1 (cAt new p.1)))), o6', o7'], bx) := by
    intro ns
    induction ns with
    | nil => exact fun k r o6 o7 h => ⟨o6, o7, by simp [forL, enumD]⟩
    | cons i ns ih =>
      intro k r o6 o7 h
      rw [List.length_cons] at h
      obtain ⟨o6', o7', e⟩ := ih (k + 1) (r ++ [.tup [.str "log", .int (k : Int), .int (i : Int), cD (cAt new i)]]) (some (.int (k : Int))) (some (.int (i : Int))) (by simp; omega)
      refine ⟨o6', o7', ?_⟩
      rw [List.map_cons]
      unfold enumD forL
      have st : stepF (run (n + 1)) G (.tup (.cons (.nam 6) (.cons (.nam 7) .nil))) b__law_commit_l1 (.tup [.int (k : Int), .int (i : Int)]) [some (dskD d), some (bsD new), some (.lst (numsD d.bl new)), none, some (bsD d.bl), some (.lst r), o6, o7] bx = some (.nx, [some (dskD d), some (bsD new), some (.lst (numsD d.bl new)), none, some (bsD d.bl), some (.lst (r ++ [.tup [.str "log", .int (k : Int), .int (i : Int), cD (cAt new i)]])), some (.int (k : Int)), some (.int (i : Int))], bx) := by
        have c : r.length < 16777216 := by omega
        simp [stepF, b__law_commit_l1, t_lat n new i bx, hs, c]
      rw [st]
      simpa [wrD] using e
  obtain ⟨o6, o7, e2⟩ := L (nums d.bl new) 0 [] none none (by simp; omega)
  obtain ⟨fd, hfd⟩ : ∃ fd, fd = ((nums d.bl new).zipIdx 0).map fun p => wrD (.log p.2 p.1 (cAt new p.1)) := ⟨_, rfl⟩
  have l2 : fd.length = (nums d.bl new).length := by rw [hfd]; simp
  rw [List.nil_append, ← hfd] at e2
  have e3 := fun r => compL_mapT (step := stepC (run (n + 1)) G (.nam 7) .nil (.tup (.cons (.con (.str "block")) (.cons (.var 7) (.cons (.call 31 (.cons (.var 1) (.cons (.var 7) .nil))) .nil)))) [7] [some (dskD d), some (bsD new), some (.lst (numsD d.bl new)), none, some (bsD d.bl), some (.lst r), o6, o7]) (bx := bx) (fun i : Nat => D.int (i : Int)) (fun i => .tup [.str "block", .int (i : Int), cD (cAt new i)]) (as := nums d.bl new) (fun i hi => by simp [stepC, t_lat n new i bx, hs])
  have en := eqD_nums (nums d.bl new)
  have ht : (turned d.bl new = []) ↔ (nums d.bl new = []) := by
    have := nums_len d.bl new
    constructor
    · intro h; rw [h] at this; exact List.length_eq_zero_iff.mp this.symm
    · intro h; rw [h] at this; exact List.length_eq_zero_iff.mp this
  unfold numsD bsD at e1
  unfold numsD at e2
  unfold numsD at e3
  have tn : turned d.bl new = (nums d.bl new).map fun n => (n, cAt new n) := rfl
  by_cases h0 : nums d.bl new = []
  · have ew : writesFor d new = [] := by unfold writesFor; rw [if_pos (ht.mpr h0)]
    rw [ew]
    simp [r__law_commit, b__law_commit, dskD, hi1, hs, bsD] at e1 e2 e3 ⊢
    rw [em]
    simp
    rw [if_pos (by omega)]
    simp
    rw [e1]
    simp
    rw [e2]
    simp
    rw [e3]
    have e0 : eqD (.lst []) (.lst []) = some true := by decide +kernel
    simp [e0, h0, hs]
  · have ew : (writesFor d new).map wrD = fd ++ ([.tup [.str "mark", .int ((nums d.bl new).length : Int)]] ++ ((nums d.bl new).map (fun i : Nat => D.tup [.str "block", .int (i : Int), cD (cAt new i)]) ++ [.tup [.str "mark", .non]])) := by
      unfold writesFor
      rw [if_neg (fun h => h0 (ht.mp h)), tn, hfd]
      simp [logWs, blWs, List.zipIdx_map, Function.comp_def, wrD, markD]
    rw [ew]
    have c3 : fd.length ≤ 16777215 := by omega
    have c4 : fd.length + ((nums d.bl new).length + 1) ≤ 16777216 := by omega
    have c5 : fd.length + ((nums d.bl new).length + 1) ≤ 16777215 := by omega
    have c6 : fd.length + 1 + (nums d.bl new).length ≤ 16777216 := by omega
    simp [r__law_commit, b__law_commit, dskD, hi1, hs, bsD] at e1 e2 e3 ⊢
    rw [em]
    simp
    rw [if_pos (by omega)]
    simp
    rw [e1]
    simp
    rw [e2]
    simp
    rw [e3]
    simp [en, h0, hs, c3, c4, c5, c6]
theorem t_lfalls (n m : Nat) (bx : Bx) (h : Cup bx) (hm : m ≤ 9000) : ∃ (fs : List Nat) (bx' : Bx), run (n + 3) 38 [.ref 0, .int (m : Int)] bx = some (fallsD fs, bx') ∧ Cup bx' ∧ fs.length ≤ 3 ∧ ∀ f ∈ fs, f ≤ m := by
  obtain ⟨x, bx1, e1, c1, hx⟩ := t_some n [.int 0, .int 1, .int 1, .int 2, .int 3] bx h (by simp) (by simp)
  obtain ⟨k, rfl, hk⟩ : ∃ k : Nat, x = .int (k : Int) ∧ k ≤ 3 := by
    simp only [List.mem_cons, List.not_mem_nil, or_false] at hx
    rcases hx with rfl | rfl | rfl | rfl | rfl
    all_goals first | exact ⟨0, rfl, by omega⟩ | exact ⟨1, rfl, by omega⟩ | exact ⟨2, rfl, by omega⟩ | exact ⟨3, rfl, by omega⟩
  obtain ⟨r, bx2, e2, c2, hl, hp⟩ := compL_all (step := stepC (run (n + 2)) G (.nam 2) .nil (.call 24 (.cons (.var 0) (.cons (.bin .add (.var 1) (.con (.int 1))) .nil))) [2] [some (.ref 0), some (.int (m : Int)), none]) (I := Cup) (P := fun y => ∃ f : Nat, y = .int (f : Int) ∧ f ≤ m) (ds := rangeD 0 k) (fun d hd bx hb => by
    obtain ⟨q, bx', e, c, hq⟩ := t_roll (n + 1) (m + 1) bx hb (by omega) (by omega)
    have e : run (n + 2) 24 [.ref 0, .int ((m : Int) + 1)] bx = some (.int (q : Int), bx') := e
    exact ⟨.int (q : Int), bx', by simp [stepC, e], c, q, rfl, by omega⟩) c1
  obtain ⟨fs, rfl, hi⟩ := all_map hp
  refine ⟨fs, bx2, ?_, c2, ?_, hi⟩
  · have hk2 : (k : Int) ≤ 16777216 := by omega
    have hk3 : (-1000000000 : Int) ≤ k := by omega
    simp [r__law_falls, b__law_falls, SZ, e1, hk2, hk3, e2, fallsD]
  · rw [List.length_map, range_len] at hl
    omega
end Dk.K49

set_option autoImplicit false
set_option linter.all false
set_option maxRecDepth 10000
/-! The law k49. Own work. -/
namespace Dk.K49
open PySem Dk

/-! ### a disk's text -/
theorem toPyL_map : ∀ ds : List D, D.toPyL ds = ds.map D.toPy
  | [] => rfl
  | d :: ds => by simp [D.toPyL, toPyL_map ds]
theorem weight_all {B : Nat} : ∀ {xs : List PyData}, (∀ x ∈ xs, x.weight + 1 ≤ B) → PyData.weightAll xs ≤ xs.length * B
  | [], _ => Nat.zero_le _
  | x :: xs, h => by
    have h1 := h x (List.mem_cons_self ..)
    have h2 := weight_all (xs := xs) fun y hy => h y (List.mem_cons_of_mem _ hy)
    show x.weight + 1 + PyData.weightAll xs ≤ (xs.length + 1) * B
    rw [Nat.add_mul]
    omega
theorem show_all {xs : List PyData} (h : ∀ x ∈ xs, x.showable = true) : PyData.showableAll xs = true := by
  induction xs with
  | nil => rfl
  | cons x xs ih =>
    show (x.showable && PyData.showableAll xs) = true
    rw [h x (List.mem_cons_self ..), ih fun y hy => h y (List.mem_cons_of_mem _ hy)]
    rfl
theorem short_all {B : Nat} {xs : List PyData} (h : ∀ x ∈ xs, x.leavesShort B = true) : PyData.leavesShortAll B xs = true := by
  induction xs with
  | nil => rfl
  | cons x xs ih =>
    show (x.leavesShort B && PyData.leavesShortAll B xs) = true
    rw [h x (List.mem_cons_self ..), ih fun y hy => h y (List.mem_cons_of_mem _ hy)]
    rfl
/-- small data: shown, short leaves, little weight -/
def Sm (W : Nat) (d : PyData) : Prop := d.showable = true ∧ d.leavesShort 8 = true ∧ d.weight ≤ W
theorem sm_int {i : Int} (h0 : 0 ≤ i) (h1 : i ≤ 999) : Sm 10 (.int i) := by
  have hn : i.natAbs < 1024 := by omega
  have hl : i.natAbs.log2 < 10 := by
    by_cases h : i.natAbs = 0
    · rw [h]; decide
    · exact (Nat.log2_lt h).mpr hn
  refine ⟨decide_eq_true (by omega), decide_eq_true ?_, ?_⟩
  · have := int_text_length_le10 (a := i) (k := 4) (by decide) (by omega)
    have e : (PyData.int i).shown.length = (toString i).length := ofString_length _
    omega
  · show (if i == 0 then 0 else i.natAbs.log2 + 1) ≤ 10
    split <;> omega
theorem sm_tup {W : Nat} {ds : List D} (h : ∀ d ∈ ds, Sm W d.toPy) : Sm (ds.length * (W + 1)) (D.tup ds).toPy := by
  have g : ∀ x ∈ D.toPyL ds, Sm W x := fun x hx => by
    rw [toPyL_map] at hx
    obtain ⟨d, hd, rfl⟩ := List.mem_map.mp hx
    exact h d hd
  refine ⟨show_all fun x hx => (g x hx).1, short_all fun x hx => (g x hx).2.1, ?_⟩
  have := weight_all (B := W + 1) (xs := D.toPyL ds) fun x hx => by have := (g x hx).2.2; omega
  rw [toPyL_map, List.length_map] at this
  show PyData.weightAll (D.toPyL ds) ≤ _
  rw [toPyL_map]
  exact this
theorem Sm.up {W W' : Nat} {d : PyData} (h : Sm W d) (e : W ≤ W') : Sm W' d := ⟨h.1, h.2.1, Nat.le_trans h.2.2 e⟩
theorem sm_c {c : List Int} (h : okC c) : Sm 5632 (cD c).toPy := by
  refine (sm_tup (W := 10) fun d hd => ?_).up ?_
  · obtain ⟨i, hi, rfl⟩ := List.mem_map.mp hd
    have := h.2 i hi
    exact sm_int this.1 (by omega)
  · rw [List.length_map]
    have := h.1
    omega
theorem sm_dsk {d : Dsk} (h : Good 12 d) (hm : d.mark = none) : Sm 500000 (dskD d).toPy := by
  have m : Sm 140000 (markD d.mark).toPy := by rw [hm]; exact ⟨rfl, rfl, Nat.zero_le _⟩
  have l : Sm 140000 (D.tup (d.log.map slotD)).toPy := by
    refine (sm_tup (W := 11266) fun x hx => ?_).up ?_
    · obtain ⟨p, hp, rfl⟩ := List.mem_map.mp hx
      have q := h.s p hp
      refine (sm_tup (W := 5632) fun y hy => ?_).up (show 2 * 5633 ≤ 11266 by decide)
      simp only [List.mem_cons, List.not_mem_nil, or_false] at hy
      rcases hy with rfl | rfl
      · exact (sm_int (by omega) (by omega)).up (by decide)
      · exact sm_c q.2
    · rw [List.length_map]
      have := h.l
      omega
  have b : Sm 140000 (bsD d.bl).toPy := by
    refine (sm_tup (W := 5632) fun x hx => ?_).up ?_
    · obtain ⟨c, hc, rfl⟩ := List.mem_map.mp hx
      exact sm_c (h.c c hc)
    · rw [List.length_map]
      have := h.b
      omega
  refine (sm_tup (W := 140000) fun x hx => ?_).up (show 3 * 140001 ≤ 500000 by decide)
  simp only [List.mem_cons, List.not_mem_nil, or_false] at hx
  rcases hx with rfl | rfl | rfl
  · exact m
  · exact l
  · exact b
theorem t_repr {d : Dsk} (h : Good 12 d) (hm : d.mark = none) : bltD .repr [dskD d] = some (.str (dskD d).toPy.shown) := by
  have s := sm_dsk h hm
  have e := PyData.shown_le 8 (by decide) _ s.2.1
  have hs : SZ = 16777216 := rfl
  have hw := s.2.2
  unfold bltD
  exact if_pos ⟨fit_mono (by decide) (pl_dsk d).2, s.1, by omega⟩

/-! ### the law's own writes -/
theorem pad_item (bs : List (List Int)) (n : Nat) (c : List Int) : wItem (bs ++ List.replicate (n + 1 - bs.length) []) n c = wItem (pad bs n) n c := by
  by_cases h : bs.length ≤ n
  · have e : n + 1 - bs.length = (n - bs.length) + 1 := by omega
    have l1 : (pad bs n).length = n := by rw [pad_len]; omega
    have e2 : bs ++ List.replicate (n + 1 - bs.length) [] = pad bs n ++ [[]] := by
      unfold pad
      rw [e, List.replicate_succ', List.append_assoc]
    rw [e2]
    unfold wItem
    rw [List.take_append_of_le_length (by omega), List.drop_of_length_le (by simp; omega), List.drop_of_length_le (by omega)]
  · have e1 : n + 1 - bs.length = 0 := by omega
    have e2 : n - bs.length = 0 := by omega
    unfold pad
    rw [e1, e2]
theorem t_while (m : Nat) (wr : D) (n : Nat) (bx : Bx) (k : Nat) (hw : ∀ b, itemD b wr (.int 1) = some (.int (n : Int))) (o0 o2 o3 : Option D) : ∀ (f : Nat) (bs : List (List Int)), n + 1 - bs.length < f → bs.length ≤ 1000 → n < 1000 →
    whL (tstW (run m) G (.cmp .le (.blt .len (.cons (.var 4) .nil)) (.idx (.var 1) (.con (.int 1))))) (bodyW (run m) G b__law_written_l1) f [o0, some wr, o2, o3, some (.lst (bs.map cD))] bx =
      some (.nx, [o0, some wr, o2, o3, some (.lst ((bs ++ List.replicate (n + 1 - bs.length) []).map cD))], bx)
  | 0, bs, h, _, _ => by omega
  | f + 1, bs, h, h1, h2 => by
    have hs : SZ = 16777216 := rfl
    unfold whL
    by_cases hl : bs.length ≤ n
    · have ih := t_while m wr n bx k hw o0 o2 o3 f (bs ++ [[]]) (by simp; omega) (by simp; omega) h2
      have hs2 : bs.length < 16777216 := by omega
      have t1 : tstW (run m) G (.cmp .le (.blt .len (.cons (.var 4) .nil)) (.idx (.var 1) (.con (.int 1)))) [o0, some wr, o2, o3, some (.lst (bs.map cD))] bx = some (true, bx) := by simp [tstW, hw, hl]
      have t2 : bodyW (run m) G b__law_written_l1 [o0, some wr, o2, o3, some (.lst (bs.map cD))] bx = some (.nx, [o0, some wr, o2, o3, some (.lst (bs.map cD ++ [.tup []]))], bx) := by simp [bodyW, b__law_written_l1, hs, hs2]
      rw [t1]
      simp only
      rw [t2]
      simp only
      have e : n + 1 - bs.length = (n + 1 - (bs ++ [[]]).length) + 1 := by simp; omega
      have e2 : List.map cD (bs ++ [[]]) = List.map cD bs ++ [D.tup []] := by simp; rfl
      rw [e2] at ih
      rw [ih, e, List.replicate_succ]
      simp
    · have e : n + 1 - bs.length = 0 := by omega
      have t1 : tstW (run m) G (.cmp .le (.blt .len (.cons (.var 4) .nil)) (.idx (.var 1) (.con (.int 1)))) [o0, some wr, o2, o3, some (.lst (bs.map cD))] bx = some (false, bx) := by simp [tstW, hw, hl]
      rw [t1, e]
      simp
theorem t_lwritten (m : Nat) (d : Dsk) (w : Wr) (bx : Bx) (h : d.sz) (g : w.sz) : run (m + 1) 33 [dskD d, wrD w] bx = some (dskD (d.wr w), bx) := by
  have hs : SZ = 16777216 := rfl
  have s1 : eqD (.str "mark") (.str "mark") = some true := by decide +kernel
  have s2 : eqD (.str "log") (.str "mark") = some false := by decide +kernel
  have s3 : eqD (.str "log") (.str "log") = some true := by decide +kernel
  have s4 : eqD (.str "block") (.str "mark") = some false := by decide +kernel
  have s5 : eqD (.str "block") (.str "log") = some false := by decide +kernel
  have hl1 := h.1
  have hl2 := h.2
  cases w with
  | mark mk => simp [r__law_written, b__law_written, dskD, wrD, Dsk.wr, ixD, hs, s1, bsD]
  | log a k c =>
    have g : a < 1000 := g
    have c1 : min a d.log.length + 1 ≤ 16777216 := by omega
    have c2 : min a d.log.length + 1 + (d.log.length - (a + 1)) ≤ 16777216 := by omega
    have e3 : wItem (d.log.map slotD) a (slotD (k, c)) = (wItem d.log a (k, c)).map slotD := (wItem_map slotD d.log a (k, c)).symm
    simp [r__law_written, b__law_written, dskD, wrD, Dsk.wr, ixD, s2, s3, hs, bsD, cut_to, cut_from1, c1, c2, ← e3, wItem]
    rfl
  | block k c =>
    have g : k < 1000 := g
    have wh := t_while m (.tup [.str "block", .int (k : Int), cD c]) k bx 0 (fun b => by simp [ixD]) (some (dskD d)) (some (markD d.mark)) (some (.lst (d.log.map slotD))) WF d.bl (by unfold WF; omega) hl2 g
    have hp : (d.bl ++ List.replicate (k + 1 - d.bl.length) []).length ≤ 1000 := by simp; omega
    have e3 : wItem ((d.bl ++ List.replicate (k + 1 - d.bl.length) []).map cD) k (cD c) = (wItem (pad d.bl k) k c).map cD := by rw [← pad_item, wItem_map]
    obtain ⟨P, hP⟩ : ∃ P, P = d.bl ++ List.replicate (k + 1 - d.bl.length) [] := ⟨_, rfl⟩
    rw [← hP] at wh hp e3
    have c1 : min k P.length + 1 ≤ 16777216 := by omega
    have c2 : min k P.length + 1 + (P.length - (k + 1)) ≤ 16777216 := by omega
    simp [r__law_written, b__law_written, dskD, wrD, Dsk.wr, ixD, s4, s5, hs, bsD, cut_to, cut_from1] at wh ⊢
    rw [wh]
    simp [ixD, cut_to, cut_from1, c1, c2, hs]
    rw [← e3]
    simp [wItem]
theorem t_lall (n : Nat) (d : Dsk) (ws : List Wr) (bx : Bx) (h : d.sz) (g : ∀ w ∈ ws, w.sz) : run (n + 2) 34 [dskD d, .lst (ws.map wrD)] bx = some (dskD (d.wrs ws), bx) := by
  have L : ∀ (ws : List Wr) (d : Dsk) (W o : Option D), d.sz → (∀ w ∈ ws, w.sz) → ∃ o', forL (stepF (run (n + 1)) G (.nam 2) b__law_all_written_l1) (ws.map wrD) [some (dskD d), W, o] bx = some (.nx, [some (dskD (d.wrs ws)), W, o'], bx) := by
    intro ws
    induction ws with
    | nil => exact fun d W o _ _ => ⟨o, rfl⟩
    | cons w ws ih =>
      intro d W o h g
      obtain ⟨o', e⟩ := ih (d.wr w) W (some (wrD w)) (wr_sz h (g w (List.mem_cons_self ..))) fun v hv => g v (List.mem_cons_of_mem _ hv)
      refine ⟨o', ?_⟩
      rw [List.map_cons]
      unfold forL
      have st : stepF (run (n + 1)) G (.nam 2) b__law_all_written_l1 (wrD w) [some (dskD d), W, o] bx = some (.nx, [some (dskD (d.wr w)), W, some (wrD w)], bx) := by simp [stepF, b__law_all_written_l1, t_lwritten n d w bx h (g w (List.mem_cons_self ..))]
      rw [st]
      exact e
  obtain ⟨o', e⟩ := L ws d (some (.lst (ws.map wrD))) none h g
  simp [r__law_all_written, b__law_all_written, e]
theorem t_lrising (n : Nat) (d : Dsk) (bx : Bx) (h : d.sz) : run (n + 1) 36 [dskD d] bx = some (.lst ((rising d).map wrD), bx) := by
  have hs : SZ = 16777216 := rfl
  have hl := h.1
  cases e : d.mark with
  | none => simp [r__law_rising, b__law_rising, dskD, ixD, e, markD, rising, hs]
  | some m =>
    simp [r__law_rising, b__law_rising, dskD, ixD, e, markD, rising, hs, cut_to]
    rw [← List.map_take, compL_mapT _ (fun p : Nat × List Int => wrD (.block p.1 p.2))]
    · have c : min m d.log.length + 1 ≤ 16777216 := by omega
      simp [hs, c, blWs, wrD, markD, Function.comp_def]
    · intro p hp
      simp [stepC, slotD, wrD, hs]
theorem t_lup (n : Nat) (d : Dsk) (fs : List Nat) (bx : Bx) (h : d.sz) (g : d.lg) : run (n + 3) 37 [dskD d, fallsD fs] bx = some (dskD (rise d fs), bx) := by
  have L : ∀ (fs : List Nat) (d : Dsk) (W o : Option D), d.sz → d.lg → (fs.foldl rise1 d).sz ∧ (fs.foldl rise1 d).lg ∧ ∃ o', forL (stepF (run (n + 2)) G (.nam 2) b__law_up_l1) (fs.map fun f : Nat => D.int (f : Int)) [some (dskD d), W, o] bx = some (.nx, [some (dskD (fs.foldl rise1 d)), W, o'], bx) := by
    intro fs
    induction fs with
    | nil => exact fun d W o h g => ⟨h, g, o, rfl⟩
    | cons f fs ih =>
      intro d W o h g
      have q := rise1_sz h g f
      obtain ⟨i1, i2, o', e⟩ := ih (rise1 d f) W (some (.int (f : Int))) q.1 q.2
      refine ⟨i1, i2, o', ?_⟩
      rw [List.map_cons]
      unfold forL
      have e1 := t_lrising (n + 1) d bx h
      have e2 := t_lall n d ((rising d).take f) bx h (fun w hw => rising_sz g w (List.mem_of_mem_take hw))
      have st : stepF (run (n + 2)) G (.nam 2) b__law_up_l1 (.int (f : Int)) [some (dskD d), W, o] bx = some (.nx, [some (dskD (rise1 d f)), W, some (.int (f : Int))], bx) := by
        simp [stepF, b__law_up_l1, e1, cut_to]
        rw [← List.map_take, e2]
        rfl
      rw [st]
      exact e
  obtain ⟨i1, i2, o', e⟩ := L fs d (some (fallsD fs)) none h g
  have e1 := t_lrising (n + 1) (fs.foldl rise1 d) bx i1
  have e2 := t_lall n (fs.foldl rise1 d) (rising (fs.foldl rise1 d)) bx i1 (rising_sz i2)
  unfold fallsD at e
  simp [r__law_up, b__law_up, fallsD, e, e1, e2, rise]
end Dk.K49

set_option autoImplicit false
set_option linter.all false
set_option maxRecDepth 10000
/-! The law k49, its turns and its end. Own work. -/
namespace Dk.K49
open PySem Dk

theorem t_ldisk (n : Nat) (bx : Bx) (h : Cup bx) : ∃ (m : D) (log : List (Nat × List Int)) (bs : List (List Int)) (bx' : Bx), run (n + 5) 29 [.ref 0] bx = some (.tup [m, .tup (log.map slotD), bsD bs], bx') ∧ Cup bx' ∧ log.length ≤ 4 ∧ (∀ p ∈ log, p.1 < 6 ∧ okC p.2) ∧ 1 ≤ bs.length ∧ bs.length ≤ 4 ∧ ∀ c ∈ bs, okC c := by
  have hs : SZ = 16777216 := rfl
  obtain ⟨k, bx1, e1, c1, hk⟩ := t_roll (n + 3) 5 bx h (by decide) (by decide)
  have e1 : run (n + 4) 24 [.ref 0, .int 5] bx = some (.int (k : Int), bx1) := e1
  obtain ⟨r, bx2, e2, c2, hl, hp⟩ := compL_all (step := stepC (run (n + 4)) G (.nam 3) .nil (.tup (.cons (.call 24 (.cons (.var 0) (.cons (.con (.int 6)) .nil))) (.cons (.call 26 (.cons (.var 0) .nil)) .nil))) [3] [some (.ref 0), none, none, none]) (I := Cup) (P := fun y => ∃ p : Nat × List Int, y = slotD p ∧ (p.1 < 6 ∧ okC p.2)) (ds := rangeD 0 k) (fun d hd bx hb => by
    obtain ⟨q, bx', e, c, hq⟩ := t_roll (n + 3) 6 bx hb (by decide) (by decide)
    have e : run (n + 4) 24 [.ref 0, .int 6] bx = some (.int (q : Int), bx') := e
    obtain ⟨c5, bx5, e5, k5, o5⟩ := t_draw (n + 1) bx' c
    exact ⟨slotD (q, c5), bx5, by simp [stepC, e, e5, hs, slotD], k5, (q, c5), rfl, hq, o5⟩) c1
  obtain ⟨log, rfl, hi⟩ := all_map hp
  rw [List.length_map, range_len] at hl
  have hk2 : (k : Int) ≤ 16777216 := by omega
  have hk3 : (-1000000000 : Int) ≤ k := by omega
  have en : eqD (.tup (log.map slotD)) (.tup []) = some (decide (log = [])) := by
    classical
    rw [eqD_pl (n := 3) (m := 3) (.tup fun x h => by
      obtain ⟨p, _, rfl⟩ := List.mem_map.mp h
      exact pl_slot p) (.tup fun x h => by cases h) (by decide) (by decide)]
    exact congrArg some (decide_eq_decide.mpr ⟨fun e => by simpa using e, fun h => by rw [h]; rfl⟩)
  by_cases h0 : log = []
  · obtain ⟨bs, bx6, e6, c6, b1, b2, b3⟩ := t_draws n 4 bx2 c2 (by decide) (by decide)
    have e6 : run (n + 4) 27 [.ref 0, .int 4] bx2 = some (bsD bs, bx6) := e6
    refine ⟨.non, log, bs, bx6, ?_, c6, by omega, hi, b1, b2, b3⟩
    subst h0
    simp at e2 en
    simp [r__law_disk, b__law_disk, hs, e1, hk2, hk3, e2, en, e6]
  · obtain ⟨q, bx3, e3, c3, hq⟩ := t_roll (n + 3) 3 bx2 c2 (by decide) (by decide)
    have e3 : run (n + 4) 24 [.ref 0, .int 3] bx2 = some (.int (q : Int), bx3) := e3
    by_cases hq0 : 0 < q
    · have hl1 : 0 < log.length := List.length_pos_iff.mpr h0
      obtain ⟨m, bx4, e4, c4, hm⟩ := t_roll (n + 3) log.length bx3 c3 hl1 (by omega)
      obtain ⟨bs, bx6, e6, c6, b1, b2, b3⟩ := t_draws n 4 bx4 c4 (by decide) (by decide)
      have e6 : run (n + 4) 27 [.ref 0, .int 4] bx4 = some (bsD bs, bx6) := e6
      refine ⟨.int (1 + (m : Int)), log, bs, bx6, ?_, c6, by omega, hi, b1, b2, b3⟩
      simp [r__law_disk, b__law_disk, hs, e1, hk2, hk3, e2, en, h0, e3, hq0, e4, e6]
    · obtain ⟨bs, bx6, e6, c6, b1, b2, b3⟩ := t_draws n 4 bx3 c3 (by decide) (by decide)
      have e6 : run (n + 4) 27 [.ref 0, .int 4] bx3 = some (bsD bs, bx6) := e6
      refine ⟨.non, log, bs, bx6, ?_, c6, by omega, hi, b1, b2, b3⟩
      simp [r__law_disk, b__law_disk, hs, e1, hk2, hk3, e2, en, h0, e3, hq0, e6]
theorem t_lrest (n : Nat) (bx : Bx) (h : Cup bx) : ∃ (d : Dsk) (bx' : Bx), run (n + 6) 30 [.ref 0] bx = some (dskD d, bx') ∧ Cup bx' ∧ d.mark = none ∧ Good 6 d ∧ d.bl.length ≤ 4 := by
  have hs : SZ = 16777216 := rfl
  obtain ⟨m, log, bs, bx1, e1, c1, h1, h2, h3, h4, h5⟩ := t_ldisk n bx h
  have ec : cutD [m, .tup (log.map slotD), bsD bs] (some 1) none = [.tup (log.map slotD), bsD bs] := cut_from1 _ 0
  refine ⟨⟨none, log, bs⟩, bx1, ?_, c1, rfl, ⟨by show log.length ≤ 6; omega, by show bs.length ≤ 6; omega, h3, h2, h5⟩, h4⟩
  simp [r__law_rest, b__law_rest, e1, ec, hs, dskD, markD]

/-- what holds ahead of each fall -/
structure InvP (d : Dsk) (new : List (List Int)) (ρ : Env) (bx : Bx) : Prop where
  cup : Cup bx
  env : ∃ (s : D) (o2 o3 o4 o5 o9 o10 o11 o12 o13 o14 : Option D), ρ = [some s, some (.ref 0), o2, o3, o4, o5, some (dskD d), some (bsD new), some (.lst ((writesFor d new).map wrD)), o9, o10, o11, o12, o13, o14]
theorem eqD_wr (ws : List Wr) : eqD (.lst (ws.map wrD)) (.lst []) = some (decide (ws = [])) := by
  classical
  have pw : ∀ w : Wr, Pl 2 (wrD w) := fun w => by
    cases w with
    | mark m =>
      exact .tup fun x h => by
        simp only [List.mem_cons, List.not_mem_nil, or_false] at h
        rcases h with rfl | rfl
        · exact .str
        · exact pl_mark m
    | log a n c =>
      exact .tup fun x h => by
        simp only [List.mem_cons, List.not_mem_nil, or_false] at h
        rcases h with rfl | rfl | rfl | rfl
        · exact .str
        · exact .int
        · exact .int
        · exact pl_c c
    | block n c =>
      exact .tup fun x h => by
        simp only [List.mem_cons, List.not_mem_nil, or_false] at h
        rcases h with rfl | rfl | rfl
        · exact .str
        · exact .int
        · exact pl_c c
  rw [eqD_pl (n := 3) (m := 3) (.lst fun x h => by
    obtain ⟨p, _, rfl⟩ := List.mem_map.mp h
    exact pw p) (.lst fun x h => by cases h) (by decide) (by decide)]
  exact congrArg some (decide_eq_decide.mpr ⟨fun e => by simpa using e, fun h => by rw [h]; rfl⟩)
theorem place_ok (n : Nat) (d : Dsk) (new : List (List Int)) (hm : d.mark = none) (hg : Good 6 d) (h1 : 1 ≤ new.length) (h2 : new.length ≤ 6) (h3 : ∀ c ∈ new, okC c) (p : Nat) (hp : p ≤ 20) (ρ : Env) (bx : Bx) (h : InvP d new ρ bx) :
    ∃ ρ' bx', stepF (run (n + 8)) G (.nam 9) b_law_l2 (.int (p : Int)) ρ bx = some (.nx, ρ', bx') ∧ InvP d new ρ' bx' := by
  obtain ⟨hc, s, o2, o3, o4, o5, o9, o10, o11, o12, o13, o14, rfl⟩ := h
  have hs : SZ = 16777216 := rfl
  have hok := hg.ok (by decide) hm
  have hnew : okBs new := ⟨h1, by omega, h3⟩
  have hw : (writesFor d new).length ≤ 14 := by
    rw [writes_len]
    have := turned_len d.bl new
    have := hg.b
    split <;> omega
  obtain ⟨fs, bx1, e1, c1, f1, f2⟩ := t_lfalls (n + 5) (writesFor d new).length bx hc (by omega)
  have hF : okF (p :: fs) := ⟨by simp; omega, fun f hf => by
    rcases List.mem_cons.mp hf with rfl | hf
    · omega
    · have := f2 f hf
      omega⟩
  have e2 := t_commit_on (n + 1) d new (p :: fs) bx1 hok hm hnew hF
  obtain ⟨q1, q2, q3, q4⟩ := commit_law hm (p :: fs) (new := new)
  have hg2 := (commit_good hg (by omega) h3 (p :: fs)).up (show 6 ≤ 12 by decide)
  have cs := commit_sz hok.sz hok.lg (by omega) p (new := new)
  have e3 := t_lall (n + 6) d ((writesFor d new).take p) bx1 hok.sz (fun w hw => writes_sz hok.sz.2 (by omega) w (List.mem_of_mem_take hw))
  have e4 := t_lup (n + 5) (d.wrs ((writesFor d new).take p)) fs bx1 cs.1 cs.2
  have er := t_repr hg2 q1
  have em : ∀ b, itemD b (dskD (commitOn d new (p :: fs))) (.int 0) = some .non := fun b => by
    simp [dskD, q1, markD, ixD]
  have eb : ∀ (b : Bx) (e : Dsk), itemD b (dskD e) (.int 2) = some (bsD e.bl) := fun b e => by
    simp [dskD, ixD]
  have ew := eqD_wr (writesFor d new)
  have cf : D.tup (.int (p : Int) :: fs.map fun f : Nat => D.int (f : Int)) = fallsD (p :: fs) := rfl
  have ct : cutD (.int (p : Int) :: fs.map fun f : Nat => D.int (f : Int)) (some 1) none = fs.map fun f : Nat => D.int (f : Int) := cut_from1 _ 0
  have ct2 : sliceD (fallsD (p :: fs)) (some 1) none = some (fallsD fs) := by
    show some (D.tup (cutD (.int (p : Int) :: fs.map fun f : Nat => D.int (f : Int)) (some 1) none)) = _
    rw [ct]
    rfl
  have bd : binD .add (.tup [.int (p : Int)]) (fallsD fs) = some (fallsD (p :: fs)) := by
    have c : 1 + fs.length ≤ 16777216 := by omega
    simp [fallsD, hs, c]
  have cw : cutD ((writesFor d new).map wrD) none (some (p : Int)) = ((writesFor d new).map wrD).take p := cut_to _ _
  rw [List.map_take] at e3
  have ec : commitOn d new (p :: fs) = rise (d.wrs ((writesFor d new).take p)) fs := rfl
  rw [← ec] at e4
  have e5 := t_alike (n + 6) (commitOn d new (p :: fs)).bl new bx1 (by have := hg2.b; omega) (by omega)
  have e6 := t_alike (n + 6) (commitOn d new (p :: fs)).bl d.bl bx1 (by have := hg2.b; omega) (by have := hg.b; omega)
  have al0 : nums (commitOn d new (p :: fs)).bl new = [] ↔ Alike (commitOn d new (p :: fs)).bl new := nums_nil
  have al1 : nums (commitOn d new (p :: fs)).bl d.bl = [] ↔ Alike (commitOn d new (p :: fs)).bl d.bl := nums_nil
  have wl : (writesFor d new).length = 0 ↔ writesFor d new = [] := List.length_eq_zero_iff
  by_cases hq : writesFor d new = [] ∨ (writesFor d new).length < 2 * p + 2
  · have al := q2 (.inr (hq.imp wl.mpr fun h => ⟨p, fs, rfl, h⟩))
    refine ⟨[some s, some (.ref 0), o2, o3, o4, some (dskD (commitOn d new (p :: fs))), some (dskD d), some (bsD new), some (.lst ((writesFor d new).map wrD)), some (.int (p : Int)), o10, o11, some (fallsD (p :: fs)), some (.bl true), o14], bx1, ?_, c1, s, o2, o3, o4, _, _, o10, o11, _, _, o14, rfl⟩
    by_cases h0 : writesFor d new = []
    · rw [h0] at ew cw e1 e3 e4
      simp at ew cw e1 e3 e4
      simp [stepF, b_law_l2, hs, h0, e1, bd, e2, er, cw, e3, ct2, e4, em, ew, eb, e5, al0.mpr al]
    · have h2 : ((writesFor d new).length : Int) - 2 < 2 * (p : Int) := by
        rcases hq with hq | hq
        · exact absurd hq h0
        · omega
      simp [stepF, b_law_l2, hs, e1, bd, e2, er, cw, e3, ct2, e4, em, ew, h0, mulOk, h2, eb, e5, al0.mpr al]
  · have h0 : ¬writesFor d new = [] := fun h => hq (.inl h)
    have h2 : ¬((writesFor d new).length : Int) - 2 < 2 * (p : Int) := fun h => hq (.inr (by omega))
    have qq := q3 ⟨p, fs, rfl, by omega⟩
    have al : Alike (commitOn d new (p :: fs)).bl d.bl := by rw [qq]; exact fun _ => rfl
    refine ⟨[some s, some (.ref 0), o2, o3, o4, some (dskD (commitOn d new (p :: fs))), some (dskD d), some (bsD new), some (.lst ((writesFor d new).map wrD)), some (.int (p : Int)), o10, o11, some (fallsD (p :: fs)), some (.bl false), o14], bx1, ?_, c1, s, o2, o3, o4, _, _, o10, o11, _, _, o14, rfl⟩
    simp [stepF, b_law_l2, hs, e1, bd, e2, er, cw, e3, ct2, e4, em, ew, h0, mulOk, h2, eb, e6, al1.mpr al]
/-- what holds ahead of each turn -/
structure InvT (ρ : Env) (bx : Bx) : Prop where
  cup : Cup bx
  env : ∃ (s : D) (o2 o3 o4 o5 o6 o7 o8 o9 o10 o11 o12 o13 o14 : Option D), ρ = [some s, some (.ref 0), o2, o3, o4, o5, o6, o7, o8, o9, o10, o11, o12, o13, o14]
theorem turn_ok (n : Nat) (t : D) (ρ : Env) (bx : Bx) (h : InvT ρ bx) : ∃ ρ' bx', stepF (run (n + 8)) G (.nam 2) b_law_l1 t ρ bx = some (.nx, ρ', bx') ∧ InvT ρ' bx' := by
  obtain ⟨hc, s, o2, o3, o4, o5, o6, o7, o8, o9, o10, o11, o12, o13, o14, rfl⟩ := h
  have hs : SZ = 16777216 := rfl
  obtain ⟨d, bx1, e1, c1, hm, hg, hl⟩ := t_lrest (n + 2) bx hc
  obtain ⟨new, bx2, e2, c2, n1, n2, n3⟩ := t_near (n + 4) d.bl bx1 c1 hg.b1 (by omega) hg.c
  have hok := hg.ok (by decide) hm
  have hnew : okBs new := ⟨n1, by omega, n3⟩
  have e3 := t_lcommit (n + 6) d new bx2 (by omega) (by omega)
  have e4 := t_commit_on (n + 1) d new [] bx2 hok hm hnew ⟨by simp, fun f hf => by cases hf⟩
  have e4 : run (n + 8) 22 [dskD d, bsD new, .tup []] bx2 = some (dskD (commitOn d new []), bx2) := e4
  have e5 := t_lall (n + 6) d (writesFor d new) bx2 hok.sz (writes_sz hok.sz.2 (by omega))
  obtain ⟨q1, _, _, _⟩ := commit_law hm [] (new := new)
  have hg2 := (commit_good hg (by omega) n3 []).up (show 6 ≤ 12 by decide)
  have er := t_repr hg2 q1
  have ec : d.wrs (writesFor d new) = commitOn d new [] := rfl
  rw [ec] at e5
  have eb : ∀ (b : Bx) (e : Dsk), itemD b (dskD e) (.int 2) = some (bsD e.bl) := fun b e => by
    simp [dskD, ixD]
  have hw : (writesFor d new).length ≤ 14 := by
    rw [writes_len]
    have := turned_len d.bl new
    split <;> omega
  have k1 : ((writesFor d new).length : Int) + 2 ≤ 16777216 := by omega
  have k2 : -1000000000 ≤ ((writesFor d new).length : Int) + 2 := by omega
  have k3 : (((writesFor d new).length : Int) + 2).toNat = (writesFor d new).length + 2 := by omega
  obtain ⟨ρ, bx4, e6, i6⟩ := forL_inv (step := stepF (run (n + 8)) G (.nam 9) b_law_l2) (fun _ ρ bx => InvP d new ρ bx) (ds := rangeD 0 ((writesFor d new).length + 2)) (k := 0) (ρ := [some s, some (.ref 0), some t, o3, o4, o5, some (dskD d), some (bsD new), some (.lst ((writesFor d new).map wrD)), o9, o10, o11, o12, o13, o14]) (bx := bx2) (fun j x ρ bx hj hi => by
    have hjl := (List.getElem?_eq_some_iff.mp hj).1
    rw [range_len] at hjl
    have hd : x = .int (j : Int) := by
      rw [range_map0, List.getElem?_map, List.getElem?_range hjl] at hj
      cases hj
      rfl
    subst hd
    exact place_ok n d new hm hg n1 (by omega) n3 j (by omega) ρ bx hi) ⟨c2, s, some t, o3, o4, o5, o9, o10, o11, o12, o13, o14, rfl⟩
  obtain ⟨c6, s, o2, o3, o4, o5, o9, o10, o11, o12, o13, o14, rfl⟩ := i6
  refine ⟨[some s, some (.ref 0), o2, o3, o4, o5, some (dskD d), some (bsD new), some (.lst ((writesFor d new).map wrD)), o9, o10, o11, o12, o13, o14], bx4, ?_, c6, s, o2, o3, o4, o5, _, _, _, o9, o10, o11, o12, o13, o14, rfl⟩
  simp [stepF, b_law_l1, hs, e1, eb, e2, e3, e4, er, e5, k1, k2, k3, e6]
end Dk.K49

set_option autoImplicit false
set_option linter.all false
set_option maxRecDepth 10000
/-! The law k49. Own work. -/
namespace Dk.K49
open PySem Dk

def q0 : Dsk := ⟨none, [], [[1, 0, 0], [7]]⟩
def o1 : Dsk := ⟨none, [(0, [1]), (1, [2]), (2, [3])], [[9], [8], [7]]⟩
def rows : List (List Nat × List (List Int)) := [([], [[2], []]), ([0], q0.bl), ([1], q0.bl), ([2], q0.bl), ([3], [[2], []]), ([4, 0, 1], [[2], []]), ([5], [[2], []]), ([6], [[2], []]), ([10000, 0], [[2], []])]
def rowD (p : List Nat × List (List Int)) : D := .tup [fallsD p.1, bsD p.2]
theorem okB (bs : List (List Int)) (h : (decide (1 ≤ bs.length) && decide (bs.length ≤ 1000) && bs.all fun c => decide (c.length ≤ 512) && c.all fun x => decide (0 ≤ x) && decide (x ≤ 255)) = true) : okBs bs := by
  simp only [Bool.and_eq_true, List.all_eq_true, decide_eq_true_eq] at h
  exact ⟨h.1.1, h.1.2, fun c hc => ⟨(h.2 c hc).1, (h.2 c hc).2⟩⟩
theorem q0_ok : q0.ok := ⟨fun k h => (by cases h), by decide, fun p hp => (by cases hp), okB _ (by decide)⟩
theorem o1_ok : o1.ok := by
  refine ⟨fun k h => (by cases h), by decide, fun p hp => ?_, okB _ (by decide)⟩
  simp only [o1, List.mem_cons, List.not_mem_nil, or_false] at hp
  rcases hp with rfl | rfl | rfl <;> exact ⟨by decide, by decide, by decide⟩
theorem rows_ok : ∀ p ∈ rows, okF p.1 ∧ (commitOn q0 [[2]] p.1).bl = p.2 := by
  have h : (rows.all fun p => decide (p.1.length ≤ 10) && p.1.all (fun f => decide (f ≤ 10000)) && decide ((commitOn q0 [[2]] p.1).bl = p.2)) = true := by decide +kernel
  intro p hp
  have := List.all_eq_true.mp h p hp
  simp only [Bool.and_eq_true, List.all_eq_true, decide_eq_true_eq] at this
  exact ⟨⟨this.1.1, this.1.2⟩, this.2⟩
theorem law_true (ns : List Int) (h : ns.length ≤ 63) : ∃ bx, run 20 40 [.scr (ns.map D.int)] [] = some (.bl true, bx) := by
  have hs : SZ = 16777216 := rfl
  obtain ⟨a, b, e1⟩ := t_cup 18 ns [] h
  obtain ⟨ρ, bx1, e2, i2⟩ := forL_inv (step := stepF (run 19) G (.nam 2) b_law_l1) (fun _ ρ bx => InvT ρ bx) (ds := rangeD 0 3) (k := 0) (ρ := [some (.scr (ns.map D.int)), some (.ref 0), none, none, none, none, none, none, none, none, none, none, none, none, none]) (bx := [.lst [.int a, .int b]]) (fun j d ρ bx hj hi => turn_ok 11 d ρ bx hi) ⟨⟨a, b, rfl⟩, .scr (ns.map D.int), none, none, none, none, none, none, none, none, none, none, none, none, none, rfl⟩
  obtain ⟨c2, s, o2, o3, o4, o5, o6, o7, o8, o9, o10, o11, o12, o13, o14, rfl⟩ := i2
  have eb : ∀ (b : Bx) (e : Dsk), itemD b (dskD e) (.int 2) = some (bsD e.bl) := fun b e => by
    simp [dskD, ixD]
  have e6 : run 19 39 [] bx1 = some (.tup [dskD q0, .tup [.int 2, .tup [slotD (1, [8, 9]), slotD (3, [5]), slotD (0, [4])], bsD [[1, 0, 0], [8, 9]]]], bx1) := by
    simp [r__law_two_disks, b__law_two_disks, hs]
    exact ⟨rfl, ⟨rfl, rfl, rfl⟩, rfl⟩
  have e7 := fun (x0 x1 x2 x3 x4 x5 x6 x7 x8 x9 x11 x12 x13 x14 : Option D) => compL_ifT (step := stepC (run 19) G (.tup (.cons (.nam 12) (.cons (.nam 14) .nil))) (.cons (.cmp .ne (.idx (.call 22 (.cons (.var 10) (.cons (.tup (.cons (.tup (.cons (.con (.int 2)) .nil)) .nil)) (.cons (.var 12) .nil)))) (.con (.int 2))) (.var 14)) .nil) (.var 12) [12, 14] [x0, x1, x2, x3, x4, x5, x6, x7, x8, x9, some (dskD q0), x11, x12, x13, x14]) (bx := bx1) rowD (fun _ => false) (fun _ => .non) (as := rows) (fun p hp => by
    obtain ⟨k1, k2⟩ := rows_ok p hp
    have e := t_commit_on 12 q0 [[2]] p.1 bx1 q0_ok rfl (okB _ (by decide)) k1
    have e : run 19 22 [dskD q0, .tup [.tup [.int 2]], fallsD p.1] bx1 = some (dskD (commitOn q0 [[2]] p.1), bx1) := e
    simp [stepC, rowD, hs, e, eb, eqD_bs, k2])
  have e8 := t_commit_on 12 o1 [[9], [6], [7]] [2] bx1 o1_ok rfl (okB _ (by decide)) ⟨by simp, fun f hf => by
    simp only [List.mem_cons, List.not_mem_nil, or_false] at hf
    omega⟩
  have c8 : commitOn o1 [[9], [6], [7]] [2] = ⟨none, [(1, [6]), (1, [2]), (2, [3])], [[9], [6], [7]]⟩ := by decide +kernel
  rw [c8] at e8
  have e8 : run 19 22 [.tup [.non, .tup [.tup [.int 0, .tup [.int 1]], .tup [.int 1, .tup [.int 2]], .tup [.int 2, .tup [.int 3]]], .tup [.tup [.int 9], .tup [.int 8], .tup [.int 7]]], .tup [.tup [.int 9], .tup [.int 6], .tup [.int 7]], .tup [.int 2]] bx1 = some (dskD ⟨none, [(1, [6]), (1, [2]), (2, [3])], [[9], [6], [7]]⟩, bx1) := e8
  have same : ∀ (n : Nat) (x : D), Pl n x → n ≤ DEEP → eqD x x = some true := fun n x h g => by
    classical
    rw [eqD_pl h h g g]
    simp
  have e9 : eqD (dskD ⟨none, [(1, [6]), (1, [2]), (2, [3])], [[9], [6], [7]]⟩) (.tup [.non, .tup [.tup [.int 1, .tup [.int 6]], .tup [.int 1, .tup [.int 2]], .tup [.int 2, .tup [.int 3]]], .tup [.tup [.int 9], .tup [.int 6], .tup [.int 7]]]) = some true := same 4 _ (pl_dsk ⟨none, [(1, [6]), (1, [2]), (2, [3])], [[9], [6], [7]]⟩) (by decide)
  have e10 := t_commit_writes 12 q0 [[2]] bx1 q0_ok rfl (okB _ (by decide))
  have e10 : run 19 21 [dskD q0, .tup [.tup [.int 2]]] bx1 = some (.tup ((writesFor q0 [[2]]).map wrD), bx1) := e10
  have l10 : (writesFor q0 [[2]]).length = 6 := by decide +kernel
  have e11 := t_commit_on 12 q0 q0.bl [0, 0] bx1 q0_ok rfl (okB _ (by decide)) ⟨by simp, fun f hf => by
    simp only [List.mem_cons, List.not_mem_nil, or_false] at hf
    omega⟩
  have c11 : commitOn q0 q0.bl [0, 0] = q0 := by decide +kernel
  rw [c11] at e11
  have e11 : run 19 22 [dskD q0, bsD q0.bl, .tup [.int 0, .int 0]] bx1 = some (dskD q0, bx1) := e11
  have e12 : eqD (dskD q0) (dskD q0) = some true := same 4 _ (pl_dsk q0) (by decide)
  have en : eqD (.lst []) (.lst []) = some true := by decide +kernel
  refine ⟨bx1, ?_⟩
  have er : D.lst [.tup [.tup [], .tup [.tup [.int 2], .tup []]], .tup [.tup [.int 0], bsD q0.bl], .tup [.tup [.int 1], bsD q0.bl], .tup [.tup [.int 2], bsD q0.bl], .tup [.tup [.int 3], .tup [.tup [.int 2], .tup []]], .tup [.tup [.int 4, .int 0, .int 1], .tup [.tup [.int 2], .tup []]], .tup [.tup [.int 5], .tup [.tup [.int 2], .tup []]], .tup [.tup [.int 6], .tup [.tup [.int 2], .tup []]], .tup [.tup [.int 10000, .int 0], .tup [.tup [.int 2], .tup []]]] = .lst (rows.map rowD) := rfl
  simp [r_law, b_law, hs, e1, e2, e6, eb, er]
  rw [e7, show List.filter (fun _ : List Nat × List (List Int) => false) rows = [] from rfl, List.map_nil]
  simp [en, e8, e9, e10, l10, e11, e12, hs, eb]
end Dk.K49

set_option autoImplicit false
set_option linter.all false
set_option Elab.async false
set_option maxRecDepth 100000
set_option maxHeartbeats 0
namespace Dk.K49
open PySem PySem.Spec PyProof.Rows L2 Dk
theorem facts {P : Program} {w : World} {K : PySem.W.Frag} {h : Heap} {mg : Str → Option Value} {f : Addr} (X : K.In h) (N : h.Ns mainGlobals mg) (hfa : mg ("law" : Str) = some (.ref f)) (c : He.SaysD fa fn K) :
    ∃ fd : FuncData, (∀ (s : Shared) (v : Value), BindsTo s fd ⟨[v], []⟩ [("script", v)]) ∧ ∀ base : Heap, K.In base → base.Ns mainGlobals mg → FnG P w K mg base 20 f fd ["script"] (spD K .val (run 20 40) 1) := by
  obtain ⟨fd, F⟩ := c.def_ 40 (d := dd dt_law) rfl
  have b := FunD.bindsA (ps := ["script"]) F fun _ _ _ _ _ _ us hl => match us, hl with | [_], _ => rfl
  have M : ModOk K mg ts gls G := mod X N c
  refine ⟨fd, fun s v => b s [v] rfl, fun base _ _ => ?_⟩
  obtain ⟨fa, fd2, H, hm, F2, hb⟩ := def_ok (P := P) (w := w) (base := base) M checks 20 40 dt_law rfl
  have e : mg ("law" : Str) = some (.ref fa) := hm
  have e2 := He.glo_ok X N (c.fact 40 (f := .glo "law") rfl)
  have ea : fa = f := by rw [hfa] at e; cases e; rfl
  subst ea
  have eb := hfa.symm.trans e2
  injection eb with eb
  injection eb with eb
  have e3 : fd = fd2 := FunD.uniq F (eb ▸ F2)
  rw [e3]
  exact H
end Dk.K49
open PySem PySem.W PyProof.Rows
theorem PySem.Challenge.cw_deskgrove_k49_whole_commits_with_falls_holds : PySem.Challenge.rw_deskgrove_k49_whole_commits_with_falls.Holds := by
  w_on; o_law
  refine HandSHeadRun.head_any (r := OpenLaw.row PySem.Challenge.rw_deskgrove_k49_whole_commits_with_falls) (q := view (OpenLaw.row PySem.Challenge.rw_deskgrove_k49_whole_commits_with_falls).prog [53]) (H := Dk.K49.hk) (ob := Dk.K49.ob) (M := 3000) (loose := Dk.K49.names) (d := HandSHeadRun.topDef (OpenLaw.row PySem.Challenge.rw_deskgrove_k49_whole_commits_with_falls).prog 53) (kwd := []) Dk.K49.ob_eq
    (by kernel_rfl) (fun s => by kernel_rfl) Dk.K49.run_ (by kernel_rfl) (by kernel_rfl) (by kernel_rfl) (by rfl) (by first | assumption | decide +kernel) (by decide +kernel) ⟨rfl, rfl, rfl, rfl, rfl, by decide +kernel⟩ ?hw ?hc
  case hw => w_witness2
  case hc =>
    refine Dk.end_law (l := PySem.Challenge.rw_deskgrove_k49_whole_commits_with_falls) (n := 63) (k := 20) (x := "script") rfl (by decide) (by kernel_rfl) ⟨rfl, by decide, by decide⟩ ?F
    intro w mg fa h Y G hmg0
    obtain ⟨K, KX, c⟩ := Y
    have hmg : mg ("law" : PySem.Str) = some (.ref fa) := by
      have e : (HandSHeadRun.topDef (OpenLaw.row PySem.Challenge.rw_deskgrove_k49_whole_commits_with_falls).prog 53).name = ("law" : PySem.Str) := by kernel_rfl
      rw [← e]
      exact hmg0
    obtain ⟨fd, hb, hF⟩ := Dk.K49.facts (P := (PySem.Challenge.rw_deskgrove_k49_whole_commits_with_falls).prog) (w := w) KX G hmg c
    exact ⟨K, fd, _, KX, hb, fun H a ns hl hS => Dk.law_spD (c := 63) (by decide) (fun ns h => Dk.K49.law_true ns h) H a ns hl hS _, hF⟩
