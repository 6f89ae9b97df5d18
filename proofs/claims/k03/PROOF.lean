import PyProof.Rows.All
import Wide.All
import OpenK.AllK
import Wide.FinOn
import HandS.ForMost
import PySem.Str
import HandS.TupAny
import HandS.TupMul
import HandS.IsInst
import HandS.Zip
import HandS.Style
import KE.GoesEnum
import KE.GoesMore
import HandS.SortKw
import HandS.List
import HandS.Defaults
import HandS.Ends
import PySem.Challenge.RW_stemloom_k03_forms_of_patterns
set_option linter.all false
/-! The interpreter: values, expressions, statements, and what they do. Pure. -/
namespace Lm
open PySem

/-- a value -/
inductive D where
  | non | bl (b : Bool) | int (i : Int) | str (s : List Nat)
  | tup (xs : List D) | lst (xs : List D) | dic (kvs : List (D × D))
  | scr (ns : List Int) | obj (k : Nat)

/-- what is shared and may change: a list -/
inductive Cell where
  | lst (xs : List D)

structure S where
  r : List (Option (D × Bool))
  g : List Cell

inductive R (α : Type) where
  | ok (a : α) (s : S) | exc (c : Str) (d : D) (s : S) | bad
def R.bind {α β : Type} (m : R α) (f : α → S → R β) : R β := match m with
  | .ok a s => f a s
  | .exc c d s => .exc c d s
  | .bad => .bad
@[simp] theorem R.bind_ok {α β : Type} (a : α) (s : S) (f : α → S → R β) : (R.ok a s).bind f = f a s := rfl
@[simp] theorem R.bind_exc {α β : Type} (c : Str) (d : D) (s : S) (f : α → S → R β) : (R.exc c d s : R α).bind f = .exc c d s := rfl
@[simp] theorem R.bind_bad {α β : Type} (f : α → S → R β) : (R.bad : R α).bind f = .bad := rfl
def R.of {α : Type} (o : Option α) (s : S) : R α := match o with
  | some a => .ok a s
  | none => .bad
@[simp] theorem R.of_some {α : Type} (a : α) (s : S) : R.of (some a) s = .ok a s := rfl
@[simp] theorem R.of_none {α : Type} (s : S) : (R.of none s : R α) = .bad := rfl

inductive BOp where | add | sub | mul | fdiv | mod | pow
inductive COp where | eq | ne | lt | le | gt | ge | is | isn | inn | nin
inductive Kd where | int | bool | str | tuple | list
inductive Bi where | len | abs | all | any | max | min | tuple | list | sorted | lenset | join | ends | max0
/-- what is walked -/
inductive SK where | val | rng1 | rng2 | enum | zip
/-- a target -/
inductive Tg where
  | nm (i : Nat) | tup (ts : List Tg)

inductive T where
  | v (i : Nat) | c (d : D)
  | tup (as : List T) | lst (as : List T)
  | bin (o : BOp) (a b : T) | neg (a : T) | not_ (a : T) | and_ (a b : T) | or_ (a b : T)
  | cmp (o : COp) (a b : T) | chain (o p : COp) (a b c : T) | ife (c a b : T)
  | ix (a i : T) | sl (a lo hi : T) | rev (a : T)
  | call (f : Str) (as : List T) | callb (f : Str) (is : List Nat)
  | calld (f : Str) (as : List T) (dfl : List D) | callc (f : Str) (i : Nat) (a : T) | maxd (a : T) (d : Int)
  | bi (f : Bi) (as : List T)
  | isi (a : T) (k : Kd)
  | pop0 (i : Nat) | pop1 (i : Nat) (a : T)
  | lc (own : List Nat) (tg : Tg) (sk : SK) (sa : List T) (cond : Option T) (elt : T)
  | none_   -- a part of a slice left out

inductive Q where
  | asg (tg : Tg) (e : T) | cel (i : Nat) (e : T)
  | set (i : Nat) (k e : T)
  | app (i : Nat) (e : T) | ext (i : Nat) (e : T) | clr (i : Nat)
  | aug (i : Nat) (o : BOp) (e : T)
  | if_ (c : T) (a b : List Q)
  | for_ (tg : Tg) (sk : SK) (sa : List T) (body : List Q)
  | while_ (c : T) (body : List Q)
  | ret (e : T) | retN | expr (e : T) | raise (c : Str) (as : List T) | pass_ | brk | cnt

/-! ### equality -/
mutual
def eqv : D → D → Bool
  | .non, .non => true
  | .bl a, .bl b => a == b
  | .int a, .int b => a == b
  | .bl a, .int b => (if a then 1 else 0) == b
  | .int a, .bl b => a == (if b then 1 else 0)
  | .str a, .str b => a == b
  | .tup a, .tup b => eqvs a b
  | .lst a, .lst b => eqvs a b
  | _, _ => false
def eqvs : List D → List D → Bool
  | [], [] => true
  | a :: x, b :: y => eqv a b && eqvs x y
  | _, _ => false
end
/-- data of a depth of at most n -/
def plain : Nat → D → Bool
  | _, .non => true
  | _, .bl _ => true
  | _, .int _ => true
  | _, .str s => s.all fun c => decide (c < 1114112)
  | n + 1, .tup xs => xs.all (plain n)
  | n + 1, .lst xs => xs.all (plain n)
  | _, _ => false
/-- two things whose == is at hand -/
def scalD : D → D → Bool
  | .non, .non | .non, .int _ | .int _, .non | .non, .bl _ | .bl _, .non | .non, .str _ | .str _, .non => true
  | .int _, .int _ | .bl _, .bl _ | .str _, .str _ | .int _, .str _ | .str _, .int _ | .bl _, .str _ | .str _, .bl _ => true
  | _, _ => false
def flat : D → Bool
  | .non => true
  | .bl _ => true
  | .int _ => true
  | .str _ => true
  | _ => false

/-! ### operations -/
def lim : Nat := 1000000
def binD : BOp → D → D → Option (D × Bool)
  | .add, .int a, .int b => some (.int (a + b), false)
  | .add, .str a, .str b => if a.length + b.length ≤ lim then some (.str (a ++ b), false) else none
  | .add, .tup a, .tup b => if a.length + b.length ≤ lim then some (.tup (a ++ b), false) else none
  | .add, .lst a, .lst b => if a.length + b.length ≤ lim then some (.lst (a ++ b), true) else none
  | .sub, .int a, .int b => some (.int (a - b), false)
  | .mul, .int a, .int b => if b.natAbs < 2 ^ 63 ∨ a.natAbs < 2 ^ 63 then some (.int (a * b), false) else none
  | .mul, .tup a, .int b => if a ≠ [] ∧ 2 ≤ b ∧ b ≤ 1000 ∧ a.length ≤ 1000 then some (.tup (List.replicate b.toNat a).flatten, false) else none
  | .mul, .str a, .int b => if b.natAbs ≤ 1000 ∧ a.length ≤ 1000 then some (.str (List.replicate b.toNat a).flatten, false) else none
  | .fdiv, .int a, .int b => if b ≠ 0 ∧ b.natAbs < 1073741824 then some (.int (a.fdiv b), false) else none
  | .mod, .int a, .int b => if b ≠ 0 then some (.int (a.fmod b), false) else none
  | .pow, .int a, .int b => if 0 ≤ b ∧ b ≤ 1000000 ∧ a.natAbs < 2 ^ 64 then some (.int (a ^ b.toNat), false) else none
  | _, _, _ => none
/-- one sign within a text; an item of a list or tuple of flat things -/
def inD : D → D → Option Bool
  | .str [c], .str z => some (decide (c ∈ z))
  | .str _, .str _ => none
  | x, .lst ys => if flat x && ys.all flat then some (ys.any fun y => eqv y x) else none
  | x, .tup ys => if flat x && ys.all flat then some (ys.any fun y => eqv y x) else none
  | _, _ => none
def cmpD : COp → D → D → Option Bool
  | .eq, x, y => if scalD x y || (plain 60 x && plain 60 y) then some (eqv x y) else none
  | .ne, x, y => if scalD x y || (plain 60 x && plain 60 y) then some (!eqv x y) else none
  | .lt, .int a, .int b => some (decide (a < b))
  | .le, .int a, .int b => some (decide (a ≤ b))
  | .gt, .int a, .int b => some (decide (b < a))
  | .ge, .int a, .int b => some (decide (b ≤ a))
  | .is, x, .non => some (match x with | .non => true | _ => false)
  | .isn, x, .non => some (match x with | .non => false | _ => true)
  | .inn, x, y => inD x y
  | .nin, x, y => (inD x y).map fun b => !b
  | _, _, _ => none
/-- an index of a length -/
def ixOf (n : Nat) (i : Int) : Option Nat := if 0 ≤ i then (if i < n then some i.toNat else none) else if -(n : Int) ≤ i then some (i + n).toNat else none
def ixD : D → D → Option D
  | .lst xs, .int i => (ixOf xs.length i).bind fun k => xs[k]?
  | .tup xs, .int i => (ixOf xs.length i).bind fun k => xs[k]?
  | .str xs, .int i => if xs.length ≤ lim then ((ixOf xs.length i).bind fun k => xs[k]?).map fun c => .str [c] else none
  | _, _ => none
def isiD : D → Kd → Option Bool
  | .obj _, _ => none
  | .scr _, _ => none
  | .int _, .int => some true
  | .bl _, .int => some true
  | .bl _, .bool => some true
  | .str _, .str => some true
  | .tup _, .tuple => some true
  | .lst _, .list => some true
  | _, _ => some false
def lenD : D → Option Nat
  | .str x => if x.length ≤ lim then some x.length else none
  | .lst x => some x.length
  | .tup x => some x.length
  | _ => none
def boolsD : List D → Option (List Bool)
  | [] => some []
  | .bl b :: r => (boolsD r).map (b :: ·)
  | _ => none
def intsD : List D → Option (List Int)
  | [] => some []
  | .int b :: r => (intsD r).map (b :: ·)
  | _ => none
def strsD : List D → Option (List (List Nat))
  | [] => some []
  | .str b :: r => (strsD r).map (b :: ·)
  | _ => none
def maxI : List Int → Option Int
  | [] => none
  | a :: r => some (r.foldl max a)
def minI : List Int → Option Int
  | [] => none
  | a :: r => some (r.foldl min a)
/-- sep.join -/
def joinL (sep : List Nat) : List (List Nat) → List Nat
  | [] => []
  | [a] => a
  | a :: b :: r => a ++ (sep ++ joinL sep (b :: r))
def one (f : D → Option (D × Bool)) : List D → Option (D × Bool)
  | [x] => f x
  | _ => none
def two (f : D → D → Option (D × Bool)) : List D → Option (D × Bool)
  | [x, y] => f x y
  | _ => none
def absD : D → Option (D × Bool)
  | .int i => some (.int (if i < 0 then -i else i), false)
  | _ => none
def ofL (f : List D → Option (D × Bool)) : D → Option (D × Bool)
  | .lst xs => f xs
  | _ => none
def tupleD : D → Option (D × Bool)
  | .lst xs => some (.tup xs, false)
  | .tup xs => some (.tup xs, false)
  | _ => none
def listD : D → Option (D × Bool)
  | .lst xs => some (.lst xs, true)
  | .tup xs => some (.lst xs, true)
  | _ => none
def max0D : D → D → Option (D × Bool)
  | .lst xs, .int d => (intsD xs).map fun is => (.int ((maxI is).getD d), false)
  | _, _ => none
def joinD : D → D → Option (D × Bool)
  | .str sep, .lst xs => (strsD xs).bind fun ss => if (joinL sep ss).length ≤ lim ∧ ss.length ≤ lim ∧ sep.length ≤ 3 then some (.str (joinL sep ss), false) else none
  | _, _ => none
def endsD : D → D → Option (D × Bool)
  | .str a, .str b => if a.length ≤ lim ∧ b.length ≤ lim then some (.bl (decide (b <:+ a)), false) else none
  | _, _ => none
def biD (f : Bi) (ds : List D) : Option (D × Bool) := match f with
  | .len => one (fun x => (lenD x).map fun n : Nat => (.int n, false)) ds
  | .abs => one absD ds
  | .all => one (ofL fun xs => (boolsD xs).map fun bs => (.bl (bs.all id), false)) ds
  | .any => one (ofL fun xs => (boolsD xs).map fun bs => (.bl (bs.any id), false)) ds
  | .max => one (ofL fun xs => (intsD xs).bind fun is => (maxI is).map fun m => (.int m, false)) ds
  | .min => one (ofL fun xs => (intsD xs).bind fun is => (minI is).map fun m => (.int m, false)) ds
  | .max0 => two max0D ds
  | .tuple => one tupleD ds
  | .list => one listD ds
  | .join => two joinD ds
  | .ends => two endsD ds
  | _ => none
def rangeD (lo hi : Int) : List D := (List.range (hi - lo).toNat).map fun k : Nat => D.int (lo + k)
def srcD : SK → List D → Option (List D)
  | .val, [.lst xs] => some xs
  | .val, [.tup xs] => some xs
  | .val, [.str xs] => some (xs.map fun c => .str [c])
  | .val, [.scr ns] => some (ns.map .int)
  | .rng1, [.int n] => if n.natAbs < 2 ^ 60 then some (rangeD 0 n) else none
  | .rng2, [.int m, .int n] => if n.natAbs < 2 ^ 60 ∧ m.natAbs < 2 ^ 60 then some (rangeD m n) else none
  | .enum, [.lst xs] => some (xs.zipIdx.map fun p => .tup [.int p.2, p.1])
  | .enum, [.tup xs] => some (xs.zipIdx.map fun p => .tup [.int p.2, p.1])
  | .enum, [.str xs] => some ((xs.map fun c => D.str [c]).zipIdx.map fun p => .tup [.int p.2, p.1])
  | .zip, [.lst xs, .lst ys] => some ((xs.zip ys).map fun p => .tup [p.1, p.2])
  | .zip, [.tup xs, .tup ys] => some ((xs.zip ys).map fun p => .tup [p.1, p.2])
  | _, _ => none
/-- a slice of a list -/
def cut {α : Type} (xs : List α) (lo hi : Option Int) : List α :=
  let n : Int := xs.length
  let f := fun (i : Int) => if i < 0 then (if i + n < 0 then 0 else i + n) else if i < n then i else n
  let a := match lo with | none => 0 | some i => f i
  let b := match hi with | none => n | some i => f i
  (xs.take b.toNat).drop a.toNat
def partD : D → Option (Option Int)
  | .non => some none
  | .int i => some (some i)
  | _ => none
def slD : D → Option Int → Option Int → Option (D × Bool)
  | .str x, lo, hi => if x.length ≤ lim then some (.str (cut x lo hi), false) else none
  | .tup x, lo, hi => some (.tup (cut x lo hi), false)
  | .lst x, lo, hi => some (.lst (cut x lo hi), true)
  | _, _, _ => none
def revD : D → Option (D × Bool)
  | .lst x => some (.lst x.reverse, true)
  | _ => none

/-! ### slots -/
def rd (i : Nat) (s : S) : R D := match s.r[i]? with
  | some (some p) => .ok p.1 s
  | _ => .bad
def wr (i : Nat) (p : D × Bool) (s : S) : S := { s with r := s.r.set i (some p) }
mutual
def bindT : Tg → D → Bool → S → R Unit
  | .nm i, d, o, s => .ok () (wr i (d, o) s)
  | .tup ts, .tup ds, _, s => bindTs ts ds s
  | .tup _, _, _, _ => .bad
def bindTs : List Tg → List D → S → R Unit
  | [], [], s => .ok () s
  | t :: ts, d :: ds, s => (bindT t d false s).bind fun _ s1 => bindTs ts ds s1
  | _, _, _ => .bad
end
def wipeR (r : List (Option (D × Bool))) : List Nat → List (Option (D × Bool))
  | [] => r
  | i :: is => (wipeR r is).set i none
def wipeS (own : List Nat) (s : S) : S := { s with r := wipeR s.r own }
/-- none of these is owned -/
def calmS (own : List Nat) (s : S) : Bool := own.all fun i => match s.r[i]? with | some (some (_, true)) => false | some _ => true | none => false
/-- the block's names as they were -/
def backR (r0 r : List (Option (D × Bool))) : List Nat → List (Option (D × Bool))
  | [] => r
  | i :: is => match r0[i]? with | some x => (backR r0 r is).set i x | none => backR r0 r is
def backS (own : List Nat) (s0 s : S) : S := { s with r := backR s0.r s.r own }

/-- the list that is changed in place: the owned one in a slot, or a cell's -/
def getL (i : Nat) (s : S) : Option (List D) := match s.r[i]? with
  | some (some (.lst xs, true)) => some xs
  | some (some (.obj k, _)) => match s.g[k]? with
    | some (.lst xs) => some xs
    | none => none
  | _ => none
def putL (i : Nat) (xs : List D) (s : S) : S := match s.r[i]? with
  | some (some (.obj k, _)) => { s with g := s.g.set k (.lst xs) }
  | _ => wr i (.lst xs, true) s
/-- what stands in a slot, a cell's list for a pointer -/
def look (i : Nat) (s : S) : R D := match s.r[i]? with
  | some (some (.obj k, _)) => match s.g[k]? with
    | some (.lst xs) => .ok (.lst xs) s
    | none => .bad
  | some (some p) => .ok p.1 s
  | _ => .bad

/-- slots that are only lent -/
def lent : List Nat → S → R (List D)
  | [], s => .ok [] s
  | i :: is, s => (rd i s).bind fun d s1 => (lent is s1).bind fun ds s2 => .ok (d :: ds) s2
def flatG (g : List Cell) : Bool := g.all fun c => match c with | .lst xs => xs.all flat
structure Ctx where
  call : Str → List D → List Cell → R (D × Bool)
  fuel : Nat

inductive Ctl where | nx | ret (d : D) (o : Bool) | brk | cnt

def lcLoop (own : List Nat) (bindx : D → S → R Unit) (cond : S → R Bool) (elt : S → R (D × Bool)) : List D → List D → S → R (List D)
  | [], acc, s => .ok acc s
  | x :: xs, acc, s => (bindx x s).bind fun _ s1 => (cond s1).bind fun b s2 =>
    if b then (elt s2).bind fun p s3 => if acc.length < lim then lcLoop own bindx cond elt xs (acc ++ [p.1]) (wipeS own s3) else .bad
    else lcLoop own bindx cond elt xs acc (wipeS own s2)

def asB : D → Option Bool
  | .bl b => some b
  | _ => none
/-- two operands; a name's list, at either place, stays its own -/
def ev2 (a b : T) (ea eb : S → R (D × Bool)) (s : S) : R (D × D) := match a, b with
  | .v i, .v j => (look i s).bind fun x s1 => (look j s1).bind fun y s2 => .ok (x, y) s2
  | .v i, _ => (look i s).bind fun _ s0 => (eb s0).bind fun y s1 => (look i s1).bind fun x s2 => .ok (x, y.1) s2
  | _, .v j => (ea s).bind fun x s1 => (look j s1).bind fun y s2 => .ok (x.1, y) s2
  | _, _ => (ea s).bind fun x s1 => (eb s1).bind fun y s2 => .ok (x.1, y.1) s2
/-- a slice's part -/
def evPart (t : T) (k : S → R (D × Bool)) (s : S) : R (Option Int) := match t with
  | .none_ => .ok none s
  | _ => (k s).bind fun x s1 => match x.1 with
    | .int i => .ok (some i) s1
    | _ => .bad
/-- a single name's list stays its own -/
def evb (as : List T) (k : S → R (List D)) (s : S) : R (List D) := match as with
  | [.v i] => (look i s).bind fun d s1 => .ok [d] s1
  | _ => k s
mutual
/-- an expression: its value, and whether it is new (a list of nobody's) -/
def ev (C : Ctx) : T → S → R (D × Bool)
  | .v i, s => (rd i s).bind fun d s1 => .ok (d, false) (wr i (d, false) s1)
  | .c d, s => .ok (d, false) s
  | .tup as, s => (evs C as s).bind fun ds s1 => if ds.length ≤ lim then .ok (.tup ds, false) s1 else .bad
  | .lst as, s => (evs C as s).bind fun ds s1 => if ds.length ≤ lim then .ok (.lst ds, true) s1 else .bad
  | .bin o a b, s => (ev C a s).bind fun x s1 => (ev C b s1).bind fun y s2 => R.of (binD o x.1 y.1) s2
  | .neg a, s => (ev C a s).bind fun x s1 => match x.1 with | .int i => .ok (.int (-i), false) s1 | _ => .bad
  | .not_ a, s => (ev C a s).bind fun x s1 => (R.of (asB x.1) s1).bind fun b s2 => .ok (.bl (!b), false) s2
  | .and_ a b, s => (ev C a s).bind fun x s1 => (R.of (asB x.1) s1).bind fun c s2 => if c then (ev C b s2).bind fun y s3 => (R.of (asB y.1) s3).bind fun d s4 => .ok (.bl d, false) s4 else .ok (.bl false, false) s2
  | .or_ a b, s => (ev C a s).bind fun x s1 => (R.of (asB x.1) s1).bind fun c s2 => if c then .ok (.bl true, false) s2 else (ev C b s2).bind fun y s3 => (R.of (asB y.1) s3).bind fun d s4 => .ok (.bl d, false) s4
  | .cmp o a b, s => (ev2 a b (fun s => ev C a s) (fun s => ev C b s) s).bind fun p s1 => (R.of (cmpD o p.1 p.2) s1).bind fun d s2 => .ok (.bl d, false) s2
  | .chain o p a b c, s => (ev C a s).bind fun x s1 => (ev C b s1).bind fun y s2 => (R.of (cmpD o x.1 y.1) s2).bind fun k s3 =>
      if k then (ev C c s3).bind fun z s4 => (R.of (cmpD p y.1 z.1) s4).bind fun d s5 => .ok (.bl d, false) s5 else .ok (.bl false, false) s3
  | .ife c a b, s => (ev C c s).bind fun x s1 => (R.of (asB x.1) s1).bind fun k s2 => if k then ev C a s2 else ev C b s2
  | .ix a i, s => (ev2 a i (fun s => ev C a s) (fun s => ev C i s) s).bind fun p s1 => (R.of (ixD p.1 p.2) s1).bind fun d s2 => .ok (d, false) s2
  | .sl a lo hi, s => (ev C a s).bind fun x s1 => (evPart lo (fun s => ev C lo s) s1).bind fun l s2 => (evPart hi (fun s => ev C hi s) s2).bind fun h s3 => R.of (slD x.1 l h) s3
  | .rev a, s => (ev C a s).bind fun x s1 => R.of (revD x.1) s1
  | .call f as, s => (evs C as s).bind fun ds s1 => match C.call f ds s1.g with
      | .ok p s2 => .ok p { s1 with g := s2.g }
      | .exc c d s2 => .exc c d { s1 with g := s2.g }
      | .bad => .bad
  | .callb f is, s => (lent is s).bind fun ds s1 => match C.call f ds s1.g with
      | .ok p s2 => if flat p.1 && flatG s2.g then .ok (p.1, false) { s1 with g := s2.g } else .bad
      | .exc c d s2 => .exc c d { s1 with g := s2.g }
      | .bad => .bad
  | .calld f as dfl, s => (evs C as s).bind fun ds s1 => match C.call f (ds ++ dfl) s1.g with
      | .ok p s2 => .ok p { s1 with g := s2.g }
      | .exc c d s2 => .exc c d { s1 with g := s2.g }
      | .bad => .bad
  | .callc f i a, s => (rd i s).bind fun _ s0 => (ev C a s0).bind fun x s1 => (rd i s1).bind fun d s2 => match C.call f [d, x.1] s2.g with
      | .ok p s3 => if flat p.1 && flatG s3.g then .ok (p.1, false) { s2 with g := s3.g } else .bad
      | .exc c d s3 => .exc c d { s2 with g := s3.g }
      | .bad => .bad
  | .maxd a d, s => (ev C a s).bind fun x s1 => R.of (max0D x.1 (.int d)) s1
  | .bi f as, s => (evb as (fun s => evs C as s) s).bind fun ds s1 => R.of (biD f ds) s1
  | .isi a k, s => (ev C a s).bind fun x s1 => (R.of (isiD x.1 k) s1).bind fun b s2 => .ok (.bl b, false) s2
  | .pop0 i, s => match getL i s with
      | some xs => match xs.getLast? with
        | some d => .ok (d, false) (putL i xs.dropLast s)
        | none => .bad
      | none => .bad
  | .pop1 i a, s => match getL i s with
      | none => .bad
      | some _ => (ev C a s).bind fun x s1 => match x.1, getL i s1 with
        | .int k, some xs => if k.natAbs < 2 ^ 60 then match ixOf xs.length k with
          | some j => match xs[j]? with
            | some d => .ok (d, false) (putL i (xs.eraseIdx j) s1)
            | none => .bad
          | none => .bad
          else .bad
        | _, _ => .bad
  | .lc own tg sk sa cond elt, s => (evs C sa s).bind fun ds s1 => (R.of (srcD sk ds) s1).bind fun xs s2 =>
      if calmS own s2 then
        (lcLoop own (fun d s => bindT tg d false s) (evc C cond) (fun s => ev C elt s) xs [] (wipeS own s2)).bind fun ys s3 => .ok (.lst ys, true) (backS own s2 s3)
      else .bad
  | .none_, s => .ok (.non, false) s
/-- a comprehension's test -/
def evc (C : Ctx) : Option T → S → R Bool
  | none, s => .ok true s
  | some c, s => (ev C c s).bind fun x s1 => R.of (asB x.1) s1
/-- values that are kept -/
def evs (C : Ctx) : List T → S → R (List D)
  | [], s => .ok [] s
  | a :: as, s => (ev C a s).bind fun x s1 => (evs C as s1).bind fun xs s2 => .ok (x.1 :: xs) s2
end

def augK (i : Nat) (o : BOp) : D → D → S → R Ctl
  | .int a, .int b, s => (R.of (binD o (.int a) (.int b)) s).bind fun p s3 => .ok .nx (wr i (p.1, false) s3)
  | .str a, .str b, s => (R.of (binD o (.str a) (.str b)) s).bind fun p s3 => .ok .nx (wr i (p.1, false) s3)
  | _, _, _ => .bad
def forLoop (bindx : D → S → R Unit) (body : S → R Ctl) : List D → S → R Ctl
  | [], s => .ok .nx s
  | x :: xs, s => (bindx x s).bind fun _ s1 => (body s1).bind fun c s2 => match c with
    | .nx => forLoop bindx body xs s2
    | .cnt => forLoop bindx body xs s2
    | .brk => .ok .nx s2
    | .ret d o => .ok (.ret d o) s2
def whLoop (test : S → R Bool) (body : S → R Ctl) : Nat → S → R Ctl
  | 0, _ => .bad
  | n + 1, s => (test s).bind fun b s1 => if b then (body s1).bind fun c s2 => match c with
      | .nx => whLoop test body n s2
      | .cnt => whLoop test body n s2
      | .brk => .ok .nx s2
      | .ret d o => .ok (.ret d o) s2
    else .ok .nx s1
mutual
def ex (C : Ctx) : Q → S → R Ctl
  | .asg tg e, s => (ev C e s).bind fun p s1 => (bindT tg p.1 p.2 s1).bind fun _ s2 => .ok .nx s2
  | .cel i e, s => (ev C e s).bind fun p s1 => match p with
      | (.lst ds, true) => .ok .nx (wr i (.obj s1.g.length, false) { s1 with g := s1.g ++ [.lst ds] })
      | _ => .bad
  | .set i k e, s => (ev C e s).bind fun x s1 => match getL i s1 with
      | none => .bad
      | some _ => (ev C k s1).bind fun y s2 => match y.1, getL i s2 with
        | .int k, some xs => match ixOf xs.length k with
          | some j => .ok .nx (putL i (xs.set j x.1) s2)
          | none => .bad
        | _, _ => .bad
  | .app i e, s => match getL i s with
      | none => .bad
      | some _ => (ev C e s).bind fun x s1 => match getL i s1 with
        | some xs => if xs.length < lim then .ok .nx (putL i (xs ++ [x.1]) s1) else .bad
        | none => .bad
  | .ext i e, s => match getL i s with
      | none => .bad
      | some _ => (ev C e s).bind fun x s1 => match x.1, getL i s1 with
        | .lst ys, some xs => if xs.length + ys.length ≤ lim then .ok .nx (putL i (xs ++ ys) s1) else .bad
        | _, _ => .bad
  | .clr i, s => match getL i s with
      | some _ => .ok .nx (putL i [] s)
      | none => .bad
  | .aug i o e, s => (rd i s).bind fun x s1 => (ev C e s1).bind fun y s2 => augK i o x y.1 s2
  | .if_ c a b, s => (ev C c s).bind fun x s1 => (R.of (asB x.1) s1).bind fun k s2 => if k then exs C a s2 else exs C b s2
  | .for_ tg sk sa body, s => (evs C sa s).bind fun ds s1 => (R.of (srcD sk ds) s1).bind fun xs s2 =>
      forLoop (fun d s => bindT tg d false s) (fun s => exs C body s) xs s2
  | .while_ c body, s => whLoop (fun s => (ev C c s).bind fun x s1 => R.of (asB x.1) s1) (fun s => exs C body s) C.fuel s
  | .ret (.v i), s => match s.r[i]? with
      | some (some p) => .ok (.ret p.1 p.2) { s with r := s.r.set i none }
      | _ => .bad
  | .ret e, s => (ev C e s).bind fun p s1 => .ok (.ret p.1 p.2) s1
  | .retN, s => .ok (.ret .non false) s
  | .expr e, s => (ev C e s).bind fun _ s1 => .ok .nx s1
  | .raise c as, s => (evs C as s).bind fun ds s1 => .exc c (.tup ds) s1
  | .pass_, s => .ok .nx s
  | .brk, s => .ok .brk s
  | .cnt, s => .ok .cnt s
def exs (C : Ctx) : List Q → S → R Ctl
  | [], s => .ok .nx s
  | q :: qs, s => (ex C q s).bind fun c s1 => match c with
    | .nx => exs C qs s1
    | c => .ok c s1
end

structure Fn where
  slots : Nat
  pars : Nat
  body : List Q
def start (F : Fn) (ds : List D) (g : List Cell) : S := ⟨ds.map (fun d => some (d, false)) ++ List.replicate (F.slots - F.pars) none, g⟩
def finC : R Ctl → R (D × Bool)
  | .ok .nx s => .ok (.non, false) ⟨[], s.g⟩
  | .ok (.ret d o) s => .ok (d, o) ⟨[], s.g⟩
  | .exc c d s => .exc c d ⟨[], s.g⟩
  | _ => .bad
/-- calls, n deep -/
def callD (tab : Str → Option Fn) (wf : Nat) : Nat → Str → List D → List Cell → R (D × Bool)
  | 0, _, _, _ => .bad
  | n + 1, f, ds, g => match tab f with
    | some F => if ds.length = F.pars then finC (exs ⟨callD tab wf n, wf⟩ F.body (start F ds g)) else .bad
    | none => .bad
example (C : Ctx) (d : D) (s : S) : ev C (.c d) s = .ok (d, false) s := rfl
end Lm
set_option Elab.async false
set_option linter.all false
set_option maxRecDepth 100000
set_option maxHeartbeats 2000000
/-! The interpreter is sound, 1: how its states lie in the heap. -/
namespace Lm
open PySem L2

mutual
/-- a value that stands still: F the part of the heap that nobody changes, μ where the cells are -/
inductive Is (K : PySem.W.Frag) (F : Hp) (μ : List Addr) : V → D → Prop
  | non : Is K F μ .non .non
  | bl (b : Bool) : Is K F μ (.bl b) (.bl b)
  | int (i : Int) : Is K F μ (.int i) (.int i)
  | str (x : Str) : Is K F μ (.str x) (.str x.cps.toList)
  | tup {a : Addr} {vs : List V} {ds : List D} : SqT K F a vs → IsAll K F μ vs ds → Is K F μ (.ref a) (.tup ds)
  | lst {a : Addr} {vs : List V} {ds : List D} : F a = some (.lst vs) → IsAll K F μ vs ds → Is K F μ (.ref a) (.lst ds)
  | scr {a : Addr} {ns : List Int} : SqL K F a (ns.map V.int) → Is K F μ (.ref a) (.scr ns)
  | obj {a : Addr} {k : Nat} : μ[k]? = some a → Is K F μ (.ref a) (.obj k)
inductive IsAll (K : PySem.W.Frag) (F : Hp) (μ : List Addr) : List V → List D → Prop
  | nil : IsAll K F μ [] []
  | cons {v : V} {vs : List V} {d : D} {ds : List D} : Is K F μ v d → IsAll K F μ vs ds → IsAll K F μ (v :: vs) (d :: ds)
end

def Sub (F F' : Hp) : Prop := ∀ a o, F a = some o → F' a = some o
def Pre (μ μ' : List Addr) : Prop := ∀ (k : Nat) (a : Addr), μ[k]? = some a → μ'[k]? = some a
theorem Sub.refl (F : Hp) : Sub F F := fun _ _ h => h
theorem Sub.trans {F G H : Hp} (a : Sub F G) (b : Sub G H) : Sub F H := fun x o h => b x o (a x o h)
theorem Pre.refl (μ : List Addr) : Pre μ μ := fun _ _ h => h
theorem Pre.trans {a b c : List Addr} (x : Pre a b) (y : Pre b c) : Pre a c := fun k d h => y k d (x k d h)
theorem Sub.rd {F F' : Hp} {a : Addr} {u : HO} (s : Sub F F') (h : Rd F a u) : Rd F' a u := by
  rcases h with h | ⟨o, h⟩
  · exact .inl (s _ _ h)
  · exact .inr ⟨o, s _ _ h⟩
theorem Sub.l {K : PySem.W.Frag} {F F' : Hp} {a : Addr} {xs : List V} (s : Sub F F') (h : SqL K F a xs) : SqL K F' a xs := by
  rcases h with h | h
  · exact .inl (s.rd h)
  · exact .inr h
theorem Sub.t {K : PySem.W.Frag} {F F' : Hp} {a : Addr} {xs : List V} (s : Sub F F') (h : SqT K F a xs) : SqT K F' a xs := by
  rcases h with h | h
  · exact .inl (s.rd h)
  · exact .inr h
theorem Sub.up {F : Hp} {a : Addr} {o : HO} (nf : F a = none) : Sub F (upd F a o) := fun b u e => by rw [upd_ne (ne_of_none e nf)]; exact e
mutual
theorem Is.mono {K : PySem.W.Frag} {F F' : Hp} {μ μ' : List Addr} (s : Sub F F') (p : Pre μ μ') : ∀ {v : V} {d : D}, Is K F μ v d → Is K F' μ' v d
  | _, _, .non => .non
  | _, _, .bl b => .bl b
  | _, _, .int i => .int i
  | _, _, .str x => .str x
  | _, _, .tup h r => .tup (s.t h) (IsAll.mono s p r)
  | _, _, .lst h r => .lst (s _ _ h) (IsAll.mono s p r)
  | _, _, .scr h => .scr (s.l h)
  | _, _, .obj h => .obj (p _ _ h)
theorem IsAll.mono {K : PySem.W.Frag} {F F' : Hp} {μ μ' : List Addr} (s : Sub F F') (p : Pre μ μ') : ∀ {vs : List V} {ds : List D}, IsAll K F μ vs ds → IsAll K F' μ' vs ds
  | _, _, .nil => .nil
  | _, _, .cons h r => .cons (Is.mono s p h) (IsAll.mono s p r)
end
section
variable {K : PySem.W.Frag} {F : Hp} {μ : List Addr}
theorem IsAll.length : ∀ {vs : List V} {ds : List D}, IsAll K F μ vs ds → vs.length = ds.length
  | _, _, .nil => rfl
  | _, _, .cons _ r => congrArg (· + 1) (IsAll.length r)
theorem IsAll.get : ∀ {vs : List V} {ds : List D} {i : Nat} {d : D}, IsAll K F μ vs ds → ds[i]? = some d → ∃ v, vs[i]? = some v ∧ Is K F μ v d
  | _, _, _, _, .nil, e => by simp at e
  | _, _, 0, _, .cons h _, e => by simp at e; subst e; exact ⟨_, rfl, h⟩
  | _, _, i + 1, d, .cons _ r, e => by
    obtain ⟨v, h1, h2⟩ := IsAll.get (i := i) (d := d) r (by simpa using e)
    exact ⟨v, by simpa using h1, h2⟩
theorem IsAll.append : ∀ {vs ws : List V} {ds es : List D}, IsAll K F μ vs ds → IsAll K F μ ws es → IsAll K F μ (vs ++ ws) (ds ++ es)
  | _, _, _, _, .nil, h => h
  | _, _, _, _, .cons a r, h => .cons a (IsAll.append r h)
theorem IsAll.take : ∀ {vs : List V} {ds : List D} (n : Nat), IsAll K F μ vs ds → IsAll K F μ (vs.take n) (ds.take n)
  | _, _, 0, _ => by simpa using IsAll.nil
  | _, _, _ + 1, .nil => .nil
  | _, _, n + 1, .cons a r => .cons a (IsAll.take n r)
theorem IsAll.drop : ∀ {vs : List V} {ds : List D} (n : Nat), IsAll K F μ vs ds → IsAll K F μ (vs.drop n) (ds.drop n)
  | _, _, 0, h => by simpa using h
  | _, _, _ + 1, .nil => .nil
  | _, _, n + 1, .cons _ r => by simpa using IsAll.drop n r
theorem IsAll.reverse : ∀ {vs : List V} {ds : List D}, IsAll K F μ vs ds → IsAll K F μ vs.reverse ds.reverse
  | _, _, .nil => .nil
  | _, _, .cons a r => by
    rw [List.reverse_cons, List.reverse_cons]
    exact (IsAll.reverse r).append (.cons a .nil)
theorem IsAll.set : ∀ {vs : List V} {ds : List D} {v : V} {d : D} (i : Nat), Is K F μ v d → IsAll K F μ vs ds → IsAll K F μ (vs.set i v) (ds.set i d)
  | _, _, _, _, _, _, .nil => .nil
  | _, _, _, _, 0, h, .cons _ r => .cons h r
  | _, _, _, _, i + 1, h, .cons a r => .cons a (IsAll.set i h r)
theorem IsAll.eraseIdx : ∀ {vs : List V} {ds : List D} (i : Nat), IsAll K F μ vs ds → IsAll K F μ (vs.eraseIdx i) (ds.eraseIdx i)
  | _, _, _, .nil => .nil
  | _, _, 0, .cons _ r => r
  | _, _, i + 1, .cons a r => .cons a (IsAll.eraseIdx i r)
theorem IsAll.dropLast : ∀ {vs : List V} {ds : List D}, IsAll K F μ vs ds → IsAll K F μ vs.dropLast ds.dropLast
  | _, _, .nil => .nil
  | _, _, .cons _ .nil => .nil
  | _, _, .cons a (.cons b r) => .cons a (IsAll.dropLast (.cons b r))
theorem IsAll.getLast {vs : List V} {ds : List D} {d : D} (h : IsAll K F μ vs ds) (e : ds.getLast? = some d) : ∃ v, vs[vs.length - 1]? = some v ∧ Is K F μ v d := by
  rw [List.getLast?_eq_getElem?] at e
  rw [h.length]
  exact h.get e
theorem IsAll.intsD : ∀ {vs : List V} {ds : List D} {ns : List Int}, IsAll K F μ vs ds → intsD ds = some ns → vs = ns.map V.int
  | _, _, ns, .nil, e => by simp [Lm.intsD] at e; subst e; rfl
  | _, _, ns, .cons h r, e => by
    cases h with
    | int i =>
      simp only [Lm.intsD, Option.map_eq_some_iff] at e
      obtain ⟨m, hm, rfl⟩ := e
      rw [IsAll.intsD r hm]; rfl
    | _ => simp [Lm.intsD] at e
theorem IsAll.boolsD : ∀ {vs : List V} {ds : List D} {ns : List Bool}, IsAll K F μ vs ds → boolsD ds = some ns → vs = ns.map V.bl
  | _, _, ns, .nil, e => by simp [Lm.boolsD] at e; subst e; rfl
  | _, _, ns, .cons h r, e => by
    cases h with
    | bl i =>
      simp only [Lm.boolsD, Option.map_eq_some_iff] at e
      obtain ⟨m, hm, rfl⟩ := e
      rw [IsAll.boolsD r hm]; rfl
    | _ => simp [Lm.boolsD] at e
theorem IsAll.strsD : ∀ {vs : List V} {ds : List D} {ns : List (List Nat)}, IsAll K F μ vs ds → strsD ds = some ns → ∃ xs : List Str, vs = xs.map V.str ∧ xs.map (fun x => x.cps.toList) = ns
  | _, _, ns, .nil, e => by simp [Lm.strsD] at e; subst e; exact ⟨[], rfl, rfl⟩
  | _, _, ns, .cons h r, e => by
    cases h with
    | str x =>
      simp only [Lm.strsD, Option.map_eq_some_iff] at e
      obtain ⟨m, hm, rfl⟩ := e
      obtain ⟨xs, e1, e2⟩ := IsAll.strsD r hm
      exact ⟨x :: xs, by rw [e1]; rfl, by rw [← e2]; rfl⟩
    | _ => simp [Lm.strsD] at e
end

/-- where a state lies: F what stands still, μ the cells' places, β those of the slots that are owned -/
structure W where
  F : Hp
  μ : List Addr
  β : Nat → Addr
  s : S
def W.ow (w : W) (i : Nat) : Prop := ∃ d, w.s.r[i]? = some (some (d, true))
def W.O (w : W) (a : Addr) : Prop := a ∈ w.μ ∨ ∃ i, w.ow i ∧ w.β i = a
def CellIs (K : PySem.W.Frag) (F : Hp) (μ : List Addr) (H : Hp) (a : Addr) : Cell → Prop
  | .lst ds => ∃ vs, H a = some (.lst vs) ∧ IsAll K F μ vs ds
structure Rep (K : PySem.W.Frag) (w : W) (σ : L2.St) (H : Hp) : Prop where
  ex : Sub w.F H
  len : w.s.r.length = σ.length
  slot : ∀ (i : Nat) (d : D), w.s.r[i]? = some (some (d, false)) → ∃ v, σ[i]? = some (some v) ∧ Is K w.F w.μ v d
  own : ∀ (i : Nat) (d : D), w.s.r[i]? = some (some (d, true)) → ∃ vs ds, d = .lst ds ∧ σ[i]? = some (some (.ref (w.β i))) ∧ H (w.β i) = some (.lst vs) ∧ IsAll K w.F w.μ vs ds
  cell : ∀ (k : Nat) (c : Cell), w.s.g[k]? = some c → ∃ a, w.μ[k]? = some a ∧ CellIs K w.F w.μ H a c
  clen : w.μ.length = w.s.g.length
  fr : ∀ a, w.O a → w.F a = none
  nd : w.μ.Nodup
  dis : ∀ i j, w.ow i → w.ow j → w.β i = w.β j → i = j
  dic : ∀ i, w.ow i → w.β i ∉ w.μ
structure Step (w : W) (H : Hp) (w' : W) (H' : Hp) : Prop where
  keep : ∀ a o, H a = some o → ¬ w.O a → H' a = some o
  sub : Sub w.F w'.F
  newF : ∀ a o, w'.F a = some o → w.F a = some o ∨ w.O a ∨ H a = none
  newO : ∀ a, w'.O a → w.O a ∨ H a = none
  pre : Pre w.μ w'.μ
  live : ∀ a, H' a = none → H a = none
theorem Step.refl (w : W) (H : Hp) : Step w H w H := ⟨fun _ _ h _ => h, Sub.refl _, fun _ _ h => .inl h, fun _ h => .inl h, Pre.refl _, fun _ h => h⟩
theorem some_none {H : Hp} {a : Addr} (h : ¬ H a = none) : ∃ o, H a = some o := by
  cases e : H a with
  | none => exact absurd e h
  | some o => exact ⟨o, rfl⟩
theorem Step.trans {w w1 w2 : W} {H H1 H2 : Hp} (x : Step w H w1 H1) (y : Step w1 H1 w2 H2) : Step w H w2 H2 where
  keep := fun a o h n => y.keep a o (x.keep a o h n) fun z => (x.newO a z).elim n fun z => by rw [h] at z; cases z
  sub := x.sub.trans y.sub
  newF := fun a o h => by
    rcases y.newF a o h with z | z | z
    · exact x.newF a o z
    · exact .inr (x.newO a z)
    · exact .inr (.inr (x.live a z))
  newO := fun a h => by
    rcases y.newO a h with z | z
    · exact x.newO a z
    · exact .inr (x.live a z)
  pre := x.pre.trans y.pre
  live := fun a h => x.live a (y.live a h)
/-- a value, or a new list -/
def W.val (K : PySem.W.Frag) (w : W) (H H' : Hp) (v : V) (p : D × Bool) : Prop := match p.2 with
  | false => Is K w.F w.μ v p.1
  | true => ∃ a vs ds, v = .ref a ∧ p.1 = .lst ds ∧ w.F a = none ∧ ¬ w.O a ∧ H a = none ∧ H' a = some (.lst vs) ∧ IsAll K w.F w.μ vs ds

section
variable {K : PySem.W.Frag} {w w1 w2 : W} {σ : L2.St} {H H1 H2 : Hp}
theorem Rep.live (R : Rep K w σ H) {a : Addr} (h : w.O a) : ∃ o, H a = some o := by
  rcases h with h | ⟨i, ⟨d, e⟩, rfl⟩
  · obtain ⟨k, hk⟩ := List.getElem?_of_mem h
    have hlt : k < w.s.g.length := by rw [← R.clen]; exact (List.getElem?_eq_some_iff.mp hk).1
    obtain ⟨a', h1, h2⟩ := R.cell k _ (List.getElem?_eq_getElem hlt)
    rw [hk] at h1; cases h1
    revert h2
    cases w.s.g[k] with
    | lst ds => exact fun ⟨vs, h, _⟩ => ⟨_, h⟩
  · obtain ⟨vs, ds, _, _, h, _⟩ := R.own i d e
    exact ⟨_, h⟩
/-- what stands still more: a new thing at a -/
theorem Rep.grow (R : Rep K w σ H) {a : Addr} {o : HO} (h : H a = some o) (nf : w.F a = none) (no : ¬ w.O a) : Rep K { w with F := upd w.F a o } σ H where
  ex := fun b u e => by
    have e : upd w.F a o b = some u := e
    by_cases q : b = a
    · subst q; rw [upd_same] at e; rw [h]; exact e
    · rw [upd_ne q] at e; exact R.ex b u e
  len := R.len
  slot := fun i d e => let ⟨v, h1, h2⟩ := R.slot i d e; ⟨v, h1, h2.mono (Sub.up nf) (Pre.refl _)⟩
  own := fun i d e => let ⟨vs, ds, h0, h1, h2, h3⟩ := R.own i d e; ⟨vs, ds, h0, h1, h2, h3.mono (Sub.up nf) (Pre.refl _)⟩
  cell := fun k c e => by
    obtain ⟨b, h1, h2⟩ := R.cell k c e
    refine ⟨b, h1, ?_⟩
    revert h2
    cases c with
    | lst ds => exact fun ⟨vs, q, r⟩ => ⟨vs, q, r.mono (Sub.up nf) (Pre.refl _)⟩
  clen := R.clen
  fr := fun b hb => by
    have : b ≠ a := fun q => no (by rw [← q]; exact hb)
    show upd w.F a o b = none
    rw [upd_ne this]
    exact R.fr b hb
  nd := R.nd
  dis := R.dis
  dic := R.dic
/-- the heap grows by a new object -/
theorem Rep.fresh (R : Rep K w σ H) {a : Addr} {o : HO} (h : H a = none) : Rep K w σ (upd H a o) where
  ex := fun b u e => by rw [upd_ne (ne_of_none (R.ex b u e) h)]; exact R.ex b u e
  len := R.len
  slot := R.slot
  own := fun i d e => let ⟨vs, ds, h0, h1, h2, h3⟩ := R.own i d e; ⟨vs, ds, h0, h1, by rw [upd_ne (ne_of_none h2 h)]; exact h2, h3⟩
  cell := fun k c e => by
    obtain ⟨b, h1, h2⟩ := R.cell k c e
    refine ⟨b, h1, ?_⟩
    revert h2
    cases c with
    | lst ds => exact fun ⟨vs, q, r⟩ => ⟨vs, by rw [upd_ne (ne_of_none q h)]; exact q, r⟩
  clen := R.clen
  fr := R.fr
  nd := R.nd
  dis := R.dis
  dic := R.dic
theorem Rep.freeF (R : Rep K w σ H) {a : Addr} (h : H a = none) : w.F a = none := by
  cases e : w.F a with
  | none => rfl
  | some o => rw [R.ex a o e] at h; cases h
theorem Rep.freeO (R : Rep K w σ H) {a : Addr} (h : H a = none) : ¬ w.O a := fun z => by
  obtain ⟨o, e⟩ := R.live z
  rw [h] at e; cases e
theorem Step.fresh {a : Addr} {o : HO} (h : H a = none) : Step w H w (upd H a o) :=
  ⟨fun b u e _ => by rw [upd_ne (ne_of_none e h)]; exact e, Sub.refl _, fun _ _ e => .inl e, fun _ e => .inl e, Pre.refl _, fun b e => by
    by_cases q : b = a
    · rw [q, upd_same] at e; cases e
    · rw [upd_ne q] at e; exact e⟩
theorem Step.grow {a : Addr} {o : HO} (S : Step w H w1 H1) (nf : w1.F a = none) (h : H a = none) : Step w H { w1 with F := upd w1.F a o } H1 :=
  ⟨S.keep, S.sub.trans (Sub.up nf), fun b u e => by
    have e : upd w1.F a o b = some u := e
    by_cases q : b = a
    · exact .inr (.inr (by rw [q]; exact h))
    · rw [upd_ne q] at e; exact S.newF b u e, S.newO, S.pre, S.live⟩
/-- a new list is let stand still -/
theorem freeze {v : V} {p : D × Bool} (R : Rep K w1 σ H1) (S : Step w H w1 H1) (h : w1.val K H H1 v p) : ∃ w2 : W, w2.s = w1.s ∧ Rep K w2 σ H1 ∧ Step w H w2 H1 ∧ Is K w2.F w2.μ v p.1 := by
  obtain ⟨d, b⟩ := p
  cases b with
  | false => exact ⟨w1, rfl, R, S, h⟩
  | true =>
    obtain ⟨a, vs, ds, rfl, rfl, nf, no, hn, ha, hv⟩ := h
    refine ⟨{ w1 with F := upd w1.F a (.lst vs) }, rfl, R.grow ha nf no, S.grow nf hn, .lst upd_same (hv.mono (Sub.up nf) (Pre.refl _))⟩
/-- a new tuple, list that stands still at once -/
theorem new_still {a : Addr} {o : HO} (R : Rep K w σ H) (h : H a = none) : Rep K { w with F := upd w.F a o } σ (upd H a o) ∧ Step w H { w with F := upd w.F a o } (upd H a o) :=
  ⟨(R.fresh h).grow upd_same (R.freeF h) (R.freeO h), (Step.fresh h).grow (R.freeF h) h⟩
end
end Lm
set_option Elab.async false
set_option linter.all false
set_option maxRecDepth 100000
set_option maxHeartbeats 2000000
/-! The interpreter is sound, 2: operations. -/
namespace Lm
open PySem L2

/-- what comes of a step, and what is wanted of it -/
def Post {α : Type} (K : PySem.W.Frag) (w : W) (σ : L2.St) (H : Hp) (m : R α) (N : α → W → Hp → Prop) : Prop := match m with
  | .ok a s' => ∀ w' H', w'.s = s' → Rep K w' σ H' → Step w H w' H' → N a w' H'
  | _ => False
section
variable {α β : Type} {K : PySem.W.Frag} {w w1 : W} {σ : L2.St} {H H1 : Hp} {m : R α}
theorem Post.bind {f : α → S → R β} {N : β → W → Hp → Prop} (h : Post K w σ H (m.bind f) N) : Post K w σ H m fun a w1 H1 => Post K w1 σ H1 (f a w1.s) N := by
  cases m with
  | ok a s' =>
    intro w1 H1 e R1 S1
    subst e
    have h : Post K w σ H (f a w1.s) N := h
    revert h
    show Post K w σ H (f a w1.s) N → Post K w1 σ H1 (f a w1.s) N
    cases f a w1.s with
    | ok b s2 => exact fun h w2 H2 e2 R2 S2 => h w2 H2 e2 R2 (S1.trans S2)
    | exc c d s2 => exact fun h => h.elim
    | bad => exact fun h => h.elim
  | exc c d s' => exact h.elim
  | bad => exact h.elim
theorem Post.imp {N N' : α → W → Hp → Prop} (h : Post K w σ H m N) (q : ∀ a w' H', Rep K w' σ H' → Step w H w' H' → N a w' H' → N' a w' H') : Post K w σ H m N' := by
  cases m with
  | ok a s' => exact fun w' H' e R S => q a w' H' R S (h w' H' e R S)
  | exc c d s' => exact h.elim
  | bad => exact h.elim
theorem Post.here {a : α} {N : α → W → Hp → Prop} (r : Rep K w σ H) (h : Post K w σ H (R.ok a w.s) N) : N a w H := h w H rfl r (Step.refl w H)
theorem Post.of {o : Option α} {N : α → W → Hp → Prop} (h : Post K w σ H (R.of o w.s) N) : ∃ a, o = some a ∧ Post K w σ H (R.ok a w.s) N := by
  cases o with
  | some a => exact ⟨a, rfl, h⟩
  | none => exact h.elim
end

/-! ### the readings -/
def tE (K : PySem.W.Frag) (C : Ctx) (t : T) : TE := fun σ H Q => ∃ w, Rep K w σ H ∧ Post K w σ H (ev C t w.s) fun p w' H' => ∀ v, w'.val K H H' v p → Q v H'
def tF (K : PySem.W.Frag) (C : Ctx) (t : T) : TE := fun σ H Q => ∃ w, Rep K w σ H ∧ Post K w σ H (ev C t w.s) fun p w' H' => ∀ v, Is K w'.F w'.μ v p.1 → Q v H'
def tAs (K : PySem.W.Frag) (C : Ctx) (as : List T) : TA := fun σ H Q => ∃ w, Rep K w σ H ∧ Post K w σ H (evs C as w.s) fun ds w' H' => ∀ vs, IsAll K w'.F w'.μ vs ds → Q vs H'
def tB2 (K : PySem.W.Frag) (C : Ctx) (t : T) : TT := fun σ H Q => ∃ w, Rep K w σ H ∧ Post K w σ H ((ev C t w.s).bind fun x s1 => R.of (asB x.1) s1) fun b w' H' => Q b H'

section
variable {X : Cx} {C : Ctx}
theorem PE.imp {e : Expr} {t t' : TE} (h : PE X e t) (q : ∀ σ H Q, t' σ H Q → t σ H Q) : PE X e t' := ⟨fun pins s σ H Q I hw => h.run pins s σ H Q I (q σ H Q hw)⟩
theorem PT.imp {e : Expr} {t t' : TT} (h : PT X e t) (q : ∀ σ H Q, t' σ H Q → t σ H Q) : PT X e t' := ⟨fun pins s σ H Q I hw => h.run pins s σ H Q I (q σ H Q hw)⟩
theorem PA.imp {e : List Expr} {t t' : TA} (h : PA X e t) (q : ∀ σ H Q, t' σ H Q → t σ H Q) : PA X e t' := ⟨fun pos pins s σ H Q I hw => h.run pos pins s σ H Q I (q σ H Q hw)⟩
theorem PE.fz {e : Expr} {t : T} (h : PE X e (tE X.K C t)) : PE X e (tF X.K C t) := PE.imp h fun σ H Q ⟨w, R, P⟩ => ⟨w, R, by
  revert P
  generalize ev C t w.s = m
  intro P
  cases m with
  | ok p s' =>
    intro w' H' e R' S' v hv
    obtain ⟨w2, e2, R2, S2, i2⟩ := freeze R' S' hv
    exact P w2 H' (e2.trans e) R2 S2 v i2
  | exc c d s' => exact P.elim
  | bad => exact P.elim⟩
end
section
variable {K : PySem.W.Frag} {C : Ctx} {w : W} {σ : L2.St} {H : Hp} {t : T}
theorem tF_of {Q : VK} {N : D × Bool → W → Hp → Prop} (R : Rep K w σ H) (P : Post K w σ H (ev C t w.s) N) (h : ∀ p w' H' v, Rep K w' σ H' → Step w H w' H' → N p w' H' → Is K w'.F w'.μ v p.1 → Q v H') : tF K C t σ H Q :=
  ⟨w, R, P.imp fun a w' H' R' S' n v i => h a w' H' v R' S' n i⟩
theorem tAs_of {as : List T} {Q : List V → Hp → Prop} {N : List D → W → Hp → Prop} (R : Rep K w σ H) (P : Post K w σ H (evs C as w.s) N) (h : ∀ p w' H' v, Rep K w' σ H' → Step w H w' H' → N p w' H' → IsAll K w'.F w'.μ v p → Q v H') : tAs K C as σ H Q :=
  ⟨w, R, P.imp fun a w' H' R' S' n v i => h a w' H' v R' S' n i⟩
/-- what is wanted of a value that has come: w0, H0 the start -/
def Got (K : PySem.W.Frag) (w : W) (σ : L2.St) (H0 H : Hp) (o : Option (D × Bool)) (Q : VK) : Prop := Post K w σ H (Lm.R.of o w.s) fun p w' H' => ∀ v, w'.val K H0 H' v p → Q v H'
theorem Got.val {H0 : Hp} {d : D} {Q : VK} {v : V} (R : Rep K w σ H) (g : Got K w σ H0 H (some (d, false)) Q) (h : Is K w.F w.μ v d) : Q v H := Post.here R g v h
theorem Got.tup {H0 : Hp} {ds : List D} {vs : List V} {Q : VK} (R : Rep K w σ H) (g : Got K w σ H0 H (some (.tup ds, false)) Q) (h : IsAll K w.F w.μ vs ds) : ∀ p, H p = none → Q (.ref p) (upd H p (.tup vs)) := fun p hp => by
  obtain ⟨R', S'⟩ := new_still (o := .tup vs) R hp
  exact g { w with F := upd w.F p (.tup vs) } _ rfl R' S' (.ref p) (.tup (SqT.of upd_same) (h.mono (Sub.up (R.freeF hp)) (Pre.refl _)))
theorem Got.lst {H0 : Hp} {ds : List D} {vs : List V} {Q : VK} (l : ∀ a, H a = none → H0 a = none) (R : Rep K w σ H) (g : Got K w σ H0 H (some (.lst ds, true)) Q) (h : IsAll K w.F w.μ vs ds) : ∀ p, H p = none → Q (.ref p) (upd H p (.lst vs)) := fun p hp =>
  g w _ rfl (R.fresh hp) (Step.fresh hp) (.ref p) ⟨p, vs, ds, rfl, rfl, R.freeF hp, R.freeO hp, l p hp, upd_same, h⟩
end

theorem Got.ite {K : PySem.W.Frag} {w : W} {σ : L2.St} {H0 H : Hp} {c : Prop} [Decidable c] {p : D × Bool} {Q : VK} (g : Got K w σ H0 H (if c then some p else none) Q) : c ∧ Got K w σ H0 H (some p) Q := by
  by_cases h : c
  · rw [if_pos h] at g; exact ⟨h, g⟩
  · rw [if_neg h] at g; exact g.elim

/-! ### two-place operations -/
theorem OpR.or {X : Cx} {f : Value → Value → Sem Value} {r r' : R2} (h : OpR X f r) (h' : OpR X f r') : OpR X f (fun x y H Q => r x y H Q ∨ r' x y H Q) := by
  intro pins s σ H x y v u Q I rx ry q
  rcases q with q | q
  · exact h pins s σ H x y v u Q I rx ry q
  · exact h' pins s σ H x y v u Q I rx ry q
def opOf : BOp → Operator
  | .add => .Add | .sub => .Sub | .mul => .Mult | .fdiv => .FloorDiv | .mod => .Mod | .pow => .Pow
theorem len_str (x : Str) : x.length = x.cps.toList.length := by
  show x.cps.size = _
  simp
theorem lim_le {n : Nat} (h : n ≤ lim) : n ≤ sizeLine := Nat.le_trans h (by decide)
theorem lim_lt {n : Nat} (h : n < lim) : n < sizeLine := Nat.lt_of_lt_of_le h (by decide)
theorem op_mulS {X : Cx} : OpR X (binaryOp .Mult) (fun x y H Q => ∃ (z : Str) (k : Int), x = .str z ∧ y = .int k ∧ k.natAbs ≤ 1000 ∧ z.length ≤ 1000 ∧ ∀ z' : Str, z'.cps.toList = (List.replicate k.toNat z.cps.toList).flatten → Q (.str z') H) := by
  intro pins s σ H x y v u Q I rx ry h
  obtain ⟨z, k, rfl, rfl, hk, hz, q⟩ := h
  obtain ⟨t, rfl⟩ := rx
  obtain ⟨t', rfl⟩ := ry
  have lz : z.length = z.cps.toList.length := len_str z
  refine PySem.P.mul_str (by simp; omega) (fun h1 h2 => ?_) (fun h1 h2 => ?_) ?_
  · have : (1000 : Int) ≤ (2 ^ 63 - 1) / k := by
      have hk1 : 0 < k := by omega
      have hk2 : k ≤ 1000 := by omega
      rw [Int.le_ediv_iff_mul_le hk1]
      omega
    omega
  · unfold Builtin.Str.tooLong
    have : z.length * k.toNat ≤ 1000 * 1000 := Nat.mul_le_mul hz (by omega)
    have e := sizeLine_eq
    simp
    omega
  · by_cases c1 : k < 1
    · rw [if_pos c1]
      have e : k.toNat = 0 := by omega
      exact ⟨Nat.zero_le _, .str Str.empty, H, I.tok _, ⟨_, rfl⟩, q Str.empty (by rw [e]; rfl)⟩
    · rw [if_neg c1]
      by_cases c2 : (k == 1 || z.length == 0) = true
      · rw [if_pos c2]
        refine ⟨.str z, H, I, ⟨_, rfl⟩, q _ ?_⟩
        rw [Bool.or_eq_true, beq_iff_eq, beq_iff_eq] at c2
        rcases c2 with e | e
        · subst e; simp
        · have e0 : z.cps.toList = [] := List.eq_nil_of_length_eq_zero (by omega)
          rw [e0]
          simp
      · rw [if_neg c2]
        have key : ∀ (n : Nat) (acc : Array Nat), ((List.replicate n z.cps).foldl (· ++ ·) acc).toList = acc.toList ++ (List.replicate n z.cps.toList).flatten := by
          intro n
          induction n with
          | zero => intro acc; simp
          | succ n ih => intro acc; rw [List.replicate_succ, List.foldl_cons, ih, List.replicate_succ, List.flatten_cons, Array.toList_append, List.append_assoc]
        have e1 : ((List.replicate k.toNat z.cps).foldl (· ++ ·) #[]).toList = (List.replicate k.toNat z.cps.toList).flatten := by rw [key]; simp
        refine ⟨?_, .str ⟨(List.replicate k.toNat z.cps).foldl (· ++ ·) #[]⟩, H, I.tok _, ⟨_, rfl⟩, q ⟨(List.replicate k.toNat z.cps).foldl (· ++ ·) #[]⟩ e1⟩
        rw [len_str, e1]
        have len : ∀ n : Nat, (List.replicate n z.cps.toList).flatten.length = n * z.cps.toList.length := by
          intro n
          induction n with
          | zero => simp
          | succ n ih => rw [List.replicate_succ, List.flatten_cons, List.length_append, ih, Nat.succ_mul]; omega
        rw [len]
        have : k.toNat * z.cps.toList.length ≤ 1000 * 1000 := Nat.mul_le_mul (by omega) (by omega)
        have e := sizeLine_eq
        omega
/-- the rule of an operator -/
def BinOk (X : Cx) (o : BOp) (r : R2) : Prop := OpR X (binaryOp (opOf o)) r ∧ ∀ (w : W) (σ : L2.St) (H0 H : Hp) (x y : V) (d e : D) (Q : VK), Rep X.K w σ H → (∀ a, H a = none → H0 a = none) → Is X.K w.F w.μ x d → Is X.K w.F w.μ y e → Got X.K w σ H0 H (binD o d e) Q → r x y H Q
theorem bin_ok (X : Cx) : ∀ o, ∃ r, BinOk X o r
  | .add => by
    refine ⟨_, (op_add.or op_add_str).or (op_catA.or op_cat), fun w σ H0 H x y d e Q R l i1 i2 g => ?_⟩
    cases i1 with
    | int i =>
      cases i2 with
      | int j => exact .inl (.inl ⟨i, j, rfl, rfl, g.val R (.int _)⟩)
      | _ => exact False.elim g
    | str i =>
      cases i2 with
      | str j =>
        obtain ⟨h, g⟩ := Got.ite g
        · skip
          refine .inl (.inr ⟨i, j, rfl, rfl, by rw [len_str, len_str]; exact lim_le h, ?_⟩)
          refine Got.val R g ?_
          have e : (i ++ j).cps.toList = i.cps.toList ++ j.cps.toList := Array.toList_append
          rw [← e]
          exact .str _
      | _ => exact False.elim g
    | tup h1 a1 =>
      cases i2 with
      | tup h2 a2 =>
        obtain ⟨h, g⟩ := Got.ite g
        · skip
          refine .inr (.inl ⟨_, _, _, _, rfl, rfl, R.ex.t h1, R.ex.t h2, by rw [a1.length, a2.length]; exact lim_le h, ?_⟩)
          have q := a1.append a2
          have n1 : ∀ {vs : List V} {ds : List D}, IsAll X.K w.F w.μ vs ds → vs = [] → ds = [] := fun a e => by
            cases a with
            | nil => rfl
            | cons _ _ => cases e
          refine ⟨fun e => ?_, fun _ e => ?_, fun _ _ => Got.tup R g q⟩
          · have e' := n1 a1 e
            subst e'
            exact Got.val R g (.tup h2 (by simpa using a2))
          · have e' := n1 a2 e
            subst e'
            refine Got.val R g ?_
            rw [List.append_nil]
            exact .tup h1 a1
      | _ => exact False.elim g
    | lst h1 a1 =>
      cases i2 with
      | lst h2 a2 =>
        obtain ⟨h, g⟩ := Got.ite g
        · skip
          exact .inr (.inr ⟨_, _, _, _, rfl, rfl, R.ex _ _ h1, R.ex _ _ h2, by rw [a1.length, a2.length]; exact lim_le h, Got.lst l R g (a1.append a2)⟩)
      | _ => exact False.elim g
    | _ => exact False.elim g
  | .sub => ⟨_, op_sub, fun w σ H0 H x y d e Q R l i1 i2 g => by
    cases i1 with
    | int i =>
      cases i2 with
      | int j => exact ⟨i, j, rfl, rfl, g.val R (.int _)⟩
      | _ => exact False.elim g
    | _ => exact False.elim g⟩
  | .mul => by
    refine ⟨_, (op_mul.or op_repT).or op_mulS, fun w σ H0 H x y d e Q R l i1 i2 g => ?_⟩
    cases i1 with
    | int i =>
      cases i2 with
      | int j =>
        obtain ⟨h, g⟩ := Got.ite g
        · skip
          refine .inl (.inl ⟨i, j, rfl, rfl, ?_, Got.val R g (.int _)⟩)
          rcases h with h | h
          · exact .inr (by omega)
          · exact .inl (by omega)
      | _ => exact False.elim g
    | tup h1 a1 =>
      cases i2 with
      | int j =>
        obtain ⟨h, g⟩ := Got.ite g
        · skip
          obtain ⟨h1', h2, h3, h4⟩ := h
          refine .inl (.inr ⟨_, j, _, rfl, rfl, R.ex.t h1, ?_, h2, h3, by rw [a1.length]; exact h4, Got.tup R g ?_⟩)
          · intro e
            apply h1'
            have := a1.length
            rw [e] at this
            exact List.eq_nil_of_length_eq_zero this.symm
          · generalize j.toNat = n
            induction n with
            | zero => exact .nil
            | succ n ih =>
              rw [List.replicate_succ, List.replicate_succ, List.flatten_cons, List.flatten_cons]
              exact a1.append ih
      | _ => exact False.elim g
    | str z =>
      cases i2 with
      | int j =>
        obtain ⟨h, g⟩ := Got.ite g
        refine .inr ⟨z, j, rfl, rfl, h.1, by rw [len_str]; exact h.2, fun z' e => Got.val R g ?_⟩
        rw [← e]
        exact .str _
      | _ => exact False.elim g
    | _ => exact False.elim g
  | .fdiv => ⟨_, op_fdivN, fun w σ H0 H x y d e Q R l i1 i2 g => by
    cases i1 with
    | int i =>
      cases i2 with
      | int j =>
        obtain ⟨h, g⟩ := Got.ite g
        · skip
          exact ⟨i, j, rfl, rfl, h, Got.val R g (.int _)⟩
      | _ => exact False.elim g
    | _ => exact False.elim g⟩
  | .mod => ⟨_, op_modN, fun w σ H0 H x y d e Q R l i1 i2 g => by
    cases i1 with
    | int i =>
      cases i2 with
      | int j =>
        obtain ⟨h, g⟩ := Got.ite g
        · skip
          exact ⟨i, j, rfl, rfl, h, Got.val R g (.int _)⟩
      | _ => exact False.elim g
    | _ => exact False.elim g⟩
  | .pow => ⟨_, op_pow, fun w σ H0 H x y d e Q R l i1 i2 g => by
    cases i1 with
    | int i =>
      cases i2 with
      | int j =>
        obtain ⟨h, g⟩ := Got.ite g
        · skip
          exact ⟨i, j, rfl, rfl, h, Got.val R g (.int _)⟩
      | _ => exact False.elim g
    | _ => exact False.elim g⟩
end Lm
set_option Elab.async false
set_option linter.all false
set_option maxRecDepth 100000
set_option maxHeartbeats 2000000
/-! The interpreter is sound, 3: comparisons, built-ins, places. -/
namespace Lm
open PySem L2

/-- a value that is only looked at -/
inductive Bo (K : PySem.W.Frag) (F : Hp) (μ : List Addr) (H : Hp) : V → D → Prop
  | is {v : V} {d : D} : Is K F μ v d → Bo K F μ H v d
  | own {a : Addr} {vs : List V} {ds : List D} : H a = some (.lst vs) → IsAll K F μ vs ds → Bo K F μ H (.ref a) (.lst ds)

mutual
def toP : D → PyData
  | .non => .none | .bl b => .bool b | .int i => .int i | .str s => .str ⟨s.toArray⟩
  | .tup ds => .tuple (toPs ds) | .lst ds => .list (toPs ds) | .dic _ => .none | .scr _ => .none | .obj _ => .none
def toPs : List D → List PyData
  | [] => [] | d :: r => toP d :: toPs r
end
mutual
theorem Dp_of {K : PySem.W.Frag} {F H : Hp} {μ : List Addr} (s : Sub F H) : ∀ (n : Nat) {v : V} {d : D}, plain n d = true → Is K F μ v d → Dp K H v (toP d)
  | _, _, _, _, .non => .non
  | _, _, _, _, .bl b => .bl b
  | _, _, _, _, .int i => .int i
  | _, _, _, _, .str x => .str x
  | 0, _, _, h, .tup _ _ => by simp [plain] at h
  | 0, _, _, h, .lst _ _ => by simp [plain] at h
  | n + 1, _, _, h, .tup h1 r => .tup (s.t h1) (Dps_of s n (by simpa [plain] using h) r)
  | n + 1, _, _, h, .lst h1 r => .lst (SqL.of (s _ _ h1)) (Dps_of s n (by simpa [plain] using h) r)
  | 0, _, _, h, .scr _ => by simp [plain] at h
  | n + 1, _, _, h, .scr _ => by simp [plain] at h
  | 0, _, _, h, .obj _ => by simp [plain] at h
  | n + 1, _, _, h, .obj _ => by simp [plain] at h
theorem Dps_of {K : PySem.W.Frag} {F H : Hp} {μ : List Addr} (s : Sub F H) : ∀ (n : Nat) {vs : List V} {ds : List D}, (∀ d ∈ ds, plain n d = true) → IsAll K F μ vs ds → DpAll K H vs (toPs ds)
  | _, _, _, _, .nil => .nil
  | n, _, _, h, .cons a r => .cons (Dp_of s n (h _ List.mem_cons_self) a) (Dps_of s n (fun d hd => h d (List.mem_cons_of_mem _ hd)) r)
end
theorem shape : ∀ (n : Nat) (d : D), plain n d = true → (toP d).canLay0 = true ∧ (toP d).depth ≤ n
  | n, .non, _ => ⟨rfl, Nat.zero_le _⟩
  | n, .bl _, _ => ⟨rfl, Nat.zero_le _⟩
  | n, .int _, _ => ⟨rfl, Nat.zero_le _⟩
  | n, .str s, h => by
    refine ⟨?_, Nat.zero_le _⟩
    have h : (s.all fun c => decide (c < 1114112)) = true := by cases n <;> exact h
    simp only [toP, PyData.canLay0, PyData.strOk]
    simpa using h
  | 0, .tup _, h => by simp [plain] at h
  | 0, .lst _, h => by simp [plain] at h
  | 0, .dic _, h => by simp [plain] at h
  | n + 1, .dic _, h => by simp [plain] at h
  | 0, .scr _, h => by simp [plain] at h
  | n + 1, .scr _, h => by simp [plain] at h
  | 0, .obj _, h => by simp [plain] at h
  | n + 1, .obj _, h => by simp [plain] at h
  | n + 1, .tup ds, h => by
    have h : ∀ d ∈ ds, plain n d = true := by simpa [plain] using h
    have q : ∀ ds : List D, (∀ d ∈ ds, plain n d = true) → PyData.canLayAll0 (toPs ds) = true ∧ PyData.depthAll (toPs ds) ≤ n := by
      intro ds
      induction ds with
      | nil => exact fun _ => ⟨rfl, Nat.zero_le _⟩
      | cons d r ih =>
        intro h
        obtain ⟨a, b⟩ := shape n d (h d List.mem_cons_self)
        obtain ⟨a', b'⟩ := ih (fun e he => h e (List.mem_cons_of_mem _ he))
        exact ⟨by simp [toPs, PyData.canLayAll0, a, a'], by simp only [toPs, PyData.depthAll]; omega⟩
    have q := q ds h
    exact ⟨by simpa [toP, PyData.canLay0] using q.1, by simp only [toP, PyData.depth]; omega⟩
  | n + 1, .lst ds, h => by
    have h : ∀ d ∈ ds, plain n d = true := by simpa [plain] using h
    have q : ∀ ds : List D, (∀ d ∈ ds, plain n d = true) → PyData.canLayAll0 (toPs ds) = true ∧ PyData.depthAll (toPs ds) ≤ n := by
      intro ds
      induction ds with
      | nil => exact fun _ => ⟨rfl, Nat.zero_le _⟩
      | cons d r ih =>
        intro h
        obtain ⟨a, b⟩ := shape n d (h d List.mem_cons_self)
        obtain ⟨a', b'⟩ := ih (fun e he => h e (List.mem_cons_of_mem _ he))
        exact ⟨by simp [toPs, PyData.canLayAll0, a, a'], by simp only [toPs, PyData.depthAll]; omega⟩
    have q := q ds h
    exact ⟨by simpa [toP, PyData.canLay0] using q.1, by simp only [toP, PyData.depth]; omega⟩
theorem shaped_of {d : D} (h : plain 60 d = true) : SeqAt.shaped (toP d) = true := by
  obtain ⟨a, b⟩ := shape 60 d h
  unfold SeqAt.shaped
  rw [a, decide_eq_true (by omega)]
  rfl
theorem beq_mk (a b : List Nat) : ((⟨a.toArray⟩ : Str) == ⟨b.toArray⟩) = (a == b) := by
  rw [Bool.eq_iff_iff, beq_iff_eq, beq_iff_eq]
  constructor
  · intro h
    have h := congrArg (fun s : Str => s.cps.toList) h
    simpa using h
  · intro h; rw [h]
theorem eqv_toP : ∀ (n : Nat) (x y : D), plain n x = true → plain n y = true → PyData.eqv (toP x) (toP y) = eqv x y := by
  intro n
  induction n with
  | zero =>
    intro x y hx hy
    cases x <;> cases y <;> first | (simp [plain] at hx; done) | (simp [plain] at hy; done) | simp [toP, PyData.eqv, eqv, beq_mk]
  | succ n ih =>
    have all : ∀ (xs ys : List D), (∀ d ∈ xs, plain n d = true) → (∀ d ∈ ys, plain n d = true) → PyData.eqvAll (toPs xs) (toPs ys) = eqvs xs ys := by
      intro xs
      induction xs with
      | nil => intro ys _ _; cases ys <;> simp [toPs, PyData.eqvAll, eqvs]
      | cons x xs ihx =>
        intro ys hx hy
        cases ys with
        | nil => simp [toPs, PyData.eqvAll, eqvs]
        | cons y ys =>
          simp only [toPs, PyData.eqvAll, eqvs]
          rw [ih x y (hx x List.mem_cons_self) (hy y List.mem_cons_self), ihx ys (fun d hd => hx d (List.mem_cons_of_mem _ hd)) fun d hd => hy d (List.mem_cons_of_mem _ hd)]
    intro x y hx hy
    cases x <;> cases y <;> first
      | (simp [plain] at hx; done) | (simp [plain] at hy; done)
      | (simp only [toP, PyData.eqv, eqv]; exact all _ _ (by simpa [plain] using hx) (by simpa [plain] using hy))
      | simp [toP, PyData.eqv, eqv, beq_mk]

section
variable {K : PySem.W.Frag} {F H : Hp} {μ : List Addr}
theorem Bo.dp (s : Sub F H) {v : V} {d : D} (h : Bo K F μ H v d) (p : plain 60 d = true) : Dp K H v (toP d) := by
  cases h with
  | is i => exact Dp_of s 60 p i
  | own h r => exact .lst (SqL.of h) (Dps_of s 59 (by simpa [plain] using p) r)
theorem str_beq (x y : Str) : (x == y) = (x.cps.toList == y.cps.toList) := by
  rw [← beq_mk]
theorem flat_v {v : V} {d : D} (h : Is K F μ v d) (f : flat d = true) : flatV v = true := by
  cases h <;> first | rfl | (simp [flat] at f; done)
theorem flat_all {vs : List V} {ds : List D} (h : IsAll K F μ vs ds) (f : ds.all flat = true) : vs.all flatV = true := by
  rw [List.all_eq_true] at f ⊢
  intro v hv
  obtain ⟨i, hi⟩ := List.getElem?_of_mem hv
  have hlt : i < ds.length := by rw [← h.length]; exact (List.getElem?_eq_some_iff.mp hi).1
  obtain ⟨v', e, r⟩ := h.get (List.getElem?_eq_getElem hlt)
  rw [hi] at e; cases e
  exact flat_v r (f _ (List.getElem_mem hlt))
theorem eqV_is {v u : V} {d e : D} (h : Is K F μ v d) (h' : Is K F μ u e) (f : flat d = true) (f' : flat e = true) : eqV v u = eqv d e := by
  cases h <;> cases h' <;> first | (simp [flat] at f; done) | (simp [flat] at f'; done) | simp [eqV, eqv, str_beq]
theorem inV_is {v : V} {d : D} (h : Is K F μ v d) (f : flat d = true) : ∀ {vs : List V} {ds : List D}, IsAll K F μ vs ds → ds.all flat = true → inV v vs = ds.any fun y => eqv y d
  | _, _, .nil, _ => rfl
  | _, _, .cons a r, g => by
    rw [List.all_cons, Bool.and_eq_true] at g
    show (eqV _ _ || inV v _) = _
    rw [List.any_cons, eqV_is a h g.1 f, inV_is h f r g.2]
end
def cOf : COp → CmpOp
  | .eq => .Eq | .ne => .NotEq | .lt => .Lt | .le => .LtE | .gt => .Gt | .ge => .GtE | .is => .Is | .isn => .IsNot | .inn => .In | .nin => .NotIn
def CmpOk (X : Cx) (o : COp) (r : R2) : Prop := OpR X (compareOp (cOf o)) r ∧ ∀ (F H : Hp) (μ : List Addr) (x y : V) (d e : D) (b : Bool) (Q : VK), Sub F H → Bo X.K F μ H x d → Bo X.K F μ H y e → cmpD o d e = some b → Q (.bl b) H → r x y H Q
theorem ite_some {α : Type} {c : Prop} [Decidable c] {a b : α} (h : (if c then some a else none) = some b) : c ∧ a = b := by
  by_cases q : c
  · rw [if_pos q] at h; exact ⟨q, Option.some.inj h⟩
  · rw [if_neg q] at h; cases h
theorem str_ext {x y : Str} : x = y ↔ x.cps = y.cps := ⟨fun h => by rw [h], fun h => by cases x; cases y; simp_all⟩
theorem scal_is {K : PySem.W.Frag} {F H : Hp} {μ : List Addr} {x y : V} {d e : D} (i : Bo K F μ H x d) (j : Bo K F μ H y e) (h : scalD d e = true) : scal x y = true ∧ decide (x = y) = eqv d e := by
  cases i with
  | own _ _ => simp [scalD] at h
  | is i =>
    cases j with
    | own _ _ => cases d <;> simp [scalD] at h
    | is j =>
      cases i <;> cases j <;> first
        | (simp [scalD] at h; done)
        | (refine ⟨rfl, ?_⟩; rw [Bool.eq_iff_iff]; simp [eqv, ← str_beq, str_ext]; done)
theorem inD_lst (d : D) (ys : List D) : inD d (.lst ys) = if flat d && ys.all flat then some (ys.any fun y => eqv y d) else none := by
  cases d <;> simp [inD]
theorem inD_tup (d : D) (ys : List D) : inD d (.tup ys) = if flat d && ys.all flat then some (ys.any fun y => eqv y d) else none := by
  cases d <;> simp [inD]
theorem in_ok {K : PySem.W.Frag} {F H : Hp} {μ : List Addr} {x y : V} {d e : D} {b : Bool} {G : Prop} (s : Sub F H) (i : Bo K F μ H x d) (j : Bo K F μ H y e) (h : inD d e = some b)
    (g1 : ∀ (c : Nat) (z : Str), x = .str ⟨#[c]⟩ → y = .str z → decide (c ∈ z.cps.toList) = b → G)
    (g2 : ∀ (p : Addr) (xs : List V), y = .ref p → (SqL K H p xs ∨ SqT K H p xs) → flatV x = true → xs.all flatV = true → inV x xs = b → G) : G := by
  have seq : ∀ {p : Addr} {xs : List V} {ds : List D}, (SqL K H p xs ∨ SqT K H p xs) → IsAll K F μ xs ds → y = .ref p → (if flat d && ds.all flat then some (ds.any fun y => eqv y d) else none) = some b → G := fun {p xs ds} hq a ey h => by
    obtain ⟨c, hb⟩ := ite_some h
    rw [Bool.and_eq_true] at c
    cases i with
    | own _ _ => simp [flat] at c
    | is i => exact g2 p xs ey hq (flat_v i c.1) (flat_all a c.2) (by rw [inV_is i c.1 a c.2]; exact hb)
  cases j with
  | own hq a => exact seq (.inl (SqL.of hq)) a rfl (by rw [inD_lst] at h; exact h)
  | is j =>
    cases j with
    | lst hq a => exact seq (.inl (SqL.of (s _ _ hq))) a rfl (by rw [inD_lst] at h; exact h)
    | tup hq a => exact seq (.inr (s.t hq)) a rfl (by rw [inD_tup] at h; exact h)
    | str z =>
      cases i with
      | own _ _ => simp [inD] at h
      | is i =>
        cases i with
        | str x =>
          obtain ⟨⟨l⟩⟩ := x
          cases l with
          | nil => simp [inD] at h
          | cons c r =>
            cases r with
            | nil => exact g1 c z rfl rfl (Option.some.inj h)
            | cons _ _ => simp [inD] at h
        | _ => simp [inD] at h
    | _ => exfalso; revert h; cases d <;> simp [inD]
theorem cmp_ok (X : Cx) (hu : X.A.units + 64 < cLine) : ∀ o, ∃ r, CmpOk X o r
  | .eq => ⟨_, op_eq.or (op_eqD hu), fun F H μ x y d e b Q s i j h q => by
    obtain ⟨c, rfl⟩ := ite_some h
    rw [Bool.or_eq_true, Bool.and_eq_true] at c
    rcases c with c | ⟨c1, c2⟩
    · obtain ⟨a1, a2⟩ := scal_is i j c
      exact .inl ⟨a1, by rw [a2]; exact q⟩
    · exact .inr ⟨_, _, i.dp s c1, j.dp s c2, shaped_of c1, shaped_of c2, by rw [eqv_toP 60 d e c1 c2]; exact q⟩⟩
  | .ne => ⟨_, op_ne.or (op_neD hu), fun F H μ x y d e b Q s i j h q => by
    obtain ⟨c, rfl⟩ := ite_some h
    rw [Bool.or_eq_true, Bool.and_eq_true] at c
    rcases c with c | ⟨c1, c2⟩
    · obtain ⟨a1, a2⟩ := scal_is i j c
      exact .inl ⟨a1, by rw [a2]; exact q⟩
    · exact .inr ⟨_, _, i.dp s c1, j.dp s c2, shaped_of c1, shaped_of c2, by rw [eqv_toP 60 d e c1 c2]; exact q⟩⟩
  | .lt => ⟨_, op_lt, fun F H μ x y d e b Q s i j h q => by
    cases i with
    | own _ _ => cases h
    | is i => cases i <;> first | (cases h; done) | (cases j with
      | own _ _ => cases h
      | is j => cases j <;> first | (cases h; done) | (cases h; exact ⟨_, _, rfl, rfl, q⟩))⟩
  | .le => ⟨_, op_le, fun F H μ x y d e b Q s i j h q => by
    cases i with
    | own _ _ => cases h
    | is i => cases i <;> first | (cases h; done) | (cases j with
      | own _ _ => cases h
      | is j => cases j <;> first | (cases h; done) | (cases h; exact ⟨_, _, rfl, rfl, q⟩))⟩
  | .gt => ⟨_, op_gt, fun F H μ x y d e b Q s i j h q => by
    cases i with
    | own _ _ => cases h
    | is i => cases i <;> first | (cases h; done) | (cases j with
      | own _ _ => cases h
      | is j => cases j <;> first | (cases h; done) | (cases h; exact ⟨_, _, rfl, rfl, q⟩))⟩
  | .ge => ⟨_, op_ge, fun F H μ x y d e b Q s i j h q => by
    cases i with
    | own _ _ => cases h
    | is i => cases i <;> first | (cases h; done) | (cases j with
      | own _ _ => cases h
      | is j => cases j <;> first | (cases h; done) | (cases h; exact ⟨_, _, rfl, rfl, q⟩))⟩
  | .is => ⟨_, op_isN, fun F H μ x y d e b Q s i j h q => by
    cases j with
    | own _ _ => cases d <;> cases h
    | is j =>
      cases j with
      | non =>
        refine ⟨rfl, ?_⟩
        have e : decide (x = .non) = b := by
          cases i with
          | own _ _ => cases h; simp
          | is i => cases i <;> (cases h; simp)
        rw [e]; exact q
      | _ => cases d <;> cases h⟩
  | .isn => ⟨_, op_notN, fun F H μ x y d e b Q s i j h q => by
    cases j with
    | own _ _ => cases d <;> cases h
    | is j =>
      cases j with
      | non =>
        refine ⟨rfl, ?_⟩
        have e : (!decide (x = .non)) = b := by
          cases i with
          | own _ _ => cases h; simp
          | is i => cases i <;> (cases h; simp)
        rw [e]; exact q
      | _ => cases d <;> cases h⟩
  | .inn => ⟨_, op_in_sign.or op_in_seq, fun F H μ x y d e b Q s i j h q => in_ok s i j h (fun c z e1 e2 e3 => .inl ⟨c, z, e1, e2, by rw [e3]; exact q⟩) fun p xs e1 e2 e3 e4 e5 => .inr ⟨p, xs, e1, e2, e3, e4, by rw [if_neg Bool.false_ne_true, e5]; exact q⟩⟩
  | .nin => ⟨_, op_notIn_sign.or op_notIn_seq, fun F H μ x y d e b Q s i j h q => by
    have h2 : (inD d e).map (fun b => !b) = some b := h
    rw [Option.map_eq_some_iff] at h2
    obtain ⟨c, h3, rfl⟩ := h2
    exact in_ok s i j h3 (fun c z e1 e2 e3 => .inl ⟨c, z, e1, e2, by rw [e3]; exact q⟩) fun p xs e1 e2 e3 e4 e5 => .inr ⟨p, xs, e1, e2, e3, e4, by rw [if_pos rfl, e5]; exact q⟩⟩
end Lm
set_option Elab.async false
set_option linter.all false
set_option maxRecDepth 100000
set_option maxHeartbeats 2000000
/-! The interpreter is sound, 4: isinstance, built-ins, places, slices. -/
namespace Lm
open PySem L2

def kName : Kd → String
  | .int => "int" | .bool => "bool" | .str => "str" | .tuple => "tuple" | .list => "list"
theorem isi_ok {K : PySem.W.Frag} {F H : Hp} {μ : List Addr} {x : V} {d : D} {k : Kd} {b : Bool} (s : Sub F H) (i : Is K F μ x d) (h : isiD d k = some b) : ∃ t, TyX K H x t ∧ PySem.W.kitOne K t (.type (kName k)) = some b := by
  cases i with
  | non => exact ⟨_, .base .non, kit_ty (by cases k <;> (cases h; decide +kernel))⟩
  | bl x => exact ⟨_, .base (.bl _), kit_ty (by cases k <;> (cases h; decide +kernel))⟩
  | int x => exact ⟨_, .base (.int _), kit_ty (by cases k <;> (cases h; decide +kernel))⟩
  | str x => exact ⟨_, .base (.str _), kit_ty (by cases k <;> (cases h; decide +kernel))⟩
  | lst h1 _ => exact ⟨_, .base (.lst (s _ _ h1)), kit_ty (by cases k <;> (cases h; decide +kernel))⟩
  | tup h1 _ =>
    rcases s.t h1 with (h2 | ⟨o, h2⟩) | ⟨o, its, n, e1, e2, _⟩
    · exact ⟨_, .base (.tup h2), kit_ty (by cases k <;> (cases h; decide +kernel))⟩
    · exact ⟨_, .fTuple h2, kit_ty (by cases k <;> (cases h; decide +kernel))⟩
    · exact ⟨_, .kTuple e1 e2, kit_ty (by cases k <;> (cases h; decide +kernel))⟩
  | scr _ => cases h
  | obj _ => cases h

theorem CallR.or {X : Cx} {f : Value} {r r' : List V → Hp → VK → Prop} (h : CallR X f r) (h' : CallR X f r') : CallR X f (fun xs H Q => r xs H Q ∨ r' xs H Q) := by
  intro pins s σ H xs us Q I rx q
  rcases q with q | q
  · exact h pins s σ H xs us Q I rx q
  · exact h' pins s σ H xs us Q I rx q
inductive BoAll (K : PySem.W.Frag) (F : Hp) (μ : List Addr) (H : Hp) : List V → List D → Prop
  | nil : BoAll K F μ H [] []
  | cons {v : V} {vs : List V} {d : D} {ds : List D} : Bo K F μ H v d → BoAll K F μ H vs ds → BoAll K F μ H (v :: vs) (d :: ds)
theorem BoAll.of {K : PySem.W.Frag} {F H : Hp} {μ : List Addr} : ∀ {vs : List V} {ds : List D}, IsAll K F μ vs ds → BoAll K F μ H vs ds
  | _, _, .nil => .nil
  | _, _, .cons a r => .cons (.is a) (BoAll.of r)
/-- a list that is looked at -/
theorem Bo.l {K : PySem.W.Frag} {F H : Hp} {μ : List Addr} {x : V} {ds : List D} (s : Sub F H) (h : Bo K F μ H x (.lst ds)) : ∃ a vs, x = .ref a ∧ H a = some (.lst vs) ∧ IsAll K F μ vs ds := by
  cases h with
  | own h r => exact ⟨_, _, rfl, h, r⟩
  | is i => cases i with
    | lst h r => exact ⟨_, _, rfl, s _ _ h, r⟩
theorem Bo.t {K : PySem.W.Frag} {F H : Hp} {μ : List Addr} {x : V} {ds : List D} (s : Sub F H) (h : Bo K F μ H x (.tup ds)) : ∃ a vs, x = .ref a ∧ SqT K F a vs ∧ IsAll K F μ vs ds := by
  cases h with
  | is i => cases i with
    | tup h r => exact ⟨_, _, rfl, h, r⟩
theorem Bo.s {K : PySem.W.Frag} {F H : Hp} {μ : List Addr} {x : V} {l : List Nat} (h : Bo K F μ H x (.str l)) : ∃ z : Str, x = .str z ∧ z.cps.toList = l := by
  cases h with
  | is i => cases i with
    | str z => exact ⟨z, rfl, rfl⟩
theorem Bo.i {K : PySem.W.Frag} {F H : Hp} {μ : List Addr} {x : V} {n : Int} (h : Bo K F μ H x (.int n)) : x = .int n := by
  cases h with
  | is i => cases i; rfl
/-- the value of a built-in's name -/
def fval : Bi → Value
  | .len => .builtin "len" | .abs => .builtin "abs" | .all => .builtin "all" | .any => .builtin "any" | .max => .builtin "max" | .min => .builtin "min" | .max0 => .none
  | .tuple => .type "tuple" | .list => .type "list" | .sorted => .builtin "sorted" | .lenset => .none | .join => .none | .ends => .none
theorem map_some {α β : Type} {o : Option α} {f : α → β} {b : β} (h : o.map f = some b) : ∃ a, o = some a ∧ f a = b := Option.map_eq_some_iff.mp h
theorem got_map {K : PySem.W.Frag} {w : W} {σ : L2.St} {H0 H : Hp} {α : Type} {o : Option α} {f : α → D × Bool} {Q : VK} (g : Got K w σ H0 H (o.map f) Q) : ∃ a, o = some a ∧ Got K w σ H0 H (some (f a)) Q := by
  cases o with
  | none => exact g.elim
  | some a => exact ⟨a, rfl, g⟩
theorem got_bind {K : PySem.W.Frag} {w : W} {σ : L2.St} {H0 H : Hp} {α : Type} {o : Option α} {f : α → Option (D × Bool)} {Q : VK} (g : Got K w σ H0 H (o.bind f) Q) : ∃ a, o = some a ∧ Got K w σ H0 H (f a) Q := by
  cases o with
  | none => exact g.elim
  | some a => exact ⟨a, rfl, g⟩
def BiOk (X : Cx) (f : Bi) (r : List V → Hp → VK → Prop) : Prop := CallR X (fval f) r ∧ ∀ (w : W) (σ : L2.St) (H0 H : Hp) (xs : List V) (ds : List D) (Q : VK), Rep X.K w σ H → (∀ a, H a = none → H0 a = none) → BoAll X.K w.F w.μ H xs ds → Got X.K w σ H0 H (biD f ds) Q → r xs H Q
theorem maxI_is : ∀ (l : List Int) (m : Int), m ∈ l → (∀ y, y ∈ l → y ≤ m) → maxI l = some m
  | a :: r, m, hm, hle => by
    have key : ∀ (l : List Int) (a : Int), (∀ y, y ∈ a :: l → y ≤ m) → m ∈ a :: l → l.foldl max a = m := by
      intro l
      induction l with
      | nil => intro a _ h; simpa using (List.mem_singleton.mp h).symm
      | cons b l ih =>
        intro a h hm
        rw [List.foldl_cons]
        refine ih (max a b) (fun y hy => ?_) ?_
        · rcases List.mem_cons.mp hy with e | e
          · rw [e]
            have h1 := h a List.mem_cons_self
            have h2 := h b (List.mem_cons_of_mem _ List.mem_cons_self)
            omega
          · exact h y (List.mem_cons_of_mem _ (List.mem_cons_of_mem _ e))
        · rcases List.mem_cons.mp hm with e | e
          · have h2 := h b (List.mem_cons_of_mem _ List.mem_cons_self)
            have : max a b = m := by omega
            rw [this]; exact List.mem_cons_self
          · rcases List.mem_cons.mp e with e | e
            · have h1 := h a List.mem_cons_self
              have : max a b = m := by omega
              rw [this]; exact List.mem_cons_self
            · exact List.mem_cons_of_mem _ e
    exact congrArg some (key r a hle hm)
theorem minI_is : ∀ (l : List Int) (m : Int), m ∈ l → (∀ y, y ∈ l → m ≤ y) → minI l = some m
  | a :: r, m, hm, hle => by
    have key : ∀ (l : List Int) (a : Int), (∀ y, y ∈ a :: l → m ≤ y) → m ∈ a :: l → l.foldl min a = m := by
      intro l
      induction l with
      | nil => intro a _ h; simpa using (List.mem_singleton.mp h).symm
      | cons b l ih =>
        intro a h hm
        rw [List.foldl_cons]
        refine ih (min a b) (fun y hy => ?_) ?_
        · rcases List.mem_cons.mp hy with e | e
          · rw [e]
            have h1 := h a List.mem_cons_self
            have h2 := h b (List.mem_cons_of_mem _ List.mem_cons_self)
            omega
          · exact h y (List.mem_cons_of_mem _ (List.mem_cons_of_mem _ e))
        · rcases List.mem_cons.mp hm with e | e
          · have h2 := h b (List.mem_cons_of_mem _ List.mem_cons_self)
            have : min a b = m := by omega
            rw [this]; exact List.mem_cons_self
          · rcases List.mem_cons.mp e with e | e
            · have h1 := h a List.mem_cons_self
              have : min a b = m := by omega
              rw [this]; exact List.mem_cons_self
            · exact List.mem_cons_of_mem _ e
    exact congrArg some (key r a hle hm)
theorem ints_len {ds : List D} {ns : List Int} (h : intsD ds = some ns) : ns.length = ds.length := by
  induction ds generalizing ns with
  | nil => simp [intsD] at h; subst h; rfl
  | cons d r ih =>
    cases d <;> simp [intsD] at h
    obtain ⟨m, hm, rfl⟩ := h
    simp [ih hm]
theorem bi_ok (X : Cx) (hc : X.calm = true) : ∀ f, fval f ≠ .none → f ≠ .sorted → ∃ r, BiOk X f r
  | .len, _, _ => ⟨_, call_len, fun w σ H0 H xs ds Q R l i g => by
    cases i with
    | nil => exact g.elim
    | cons i r =>
      cases r with
      | cons _ _ => exact g.elim
      | nil =>
        rename_i d
        obtain ⟨n, hn, g⟩ := got_map (show Got X.K w σ H0 H ((lenD d).map fun n : Nat => (D.int (n : Int), false)) Q from g)
        refine ⟨_, n, rfl, ?_, g.val R (.int _)⟩
        cases d with
        | str z =>
          obtain ⟨z, rfl, rfl⟩ := i.s
          obtain ⟨h, rfl⟩ := ite_some hn
          exact ⟨by rw [len_str]; exact lim_le h, (len_str z).symm⟩
        | lst ds =>
          obtain ⟨a, vs, rfl, h, q⟩ := i.l R.ex
          cases hn
          exact .inl ⟨vs, SqL.of h, q.length.symm⟩
        | tup ds =>
          obtain ⟨a, vs, rfl, h, q⟩ := i.t R.ex
          cases hn
          exact .inr ⟨vs, R.ex.t h, q.length.symm⟩
        | _ => cases hn⟩
  | .abs, _, _ => ⟨_, call_abs, fun w σ H0 H xs ds Q R l i g => by
    cases i with
    | nil => exact g.elim
    | cons i r =>
      rename_i d _
      cases r with
      | cons _ _ => cases d <;> exact g.elim
      | nil => cases d with
        | int n =>
          obtain rfl := i.i
          exact ⟨n, rfl, g.val R (.int _)⟩
        | _ => exact g.elim⟩
  | .all, _, _ => ⟨_, cr_all hc, fun w σ H0 H xs ds Q R l i g => by
    cases i with
    | nil => exact g.elim
    | cons i r =>
      rename_i d _
      cases r with
      | cons _ _ => cases d <;> exact g.elim
      | nil => cases d with
        | lst n =>
          obtain ⟨a, vs, rfl, h, q⟩ := i.l R.ex
          obtain ⟨bs, hb, g⟩ := got_map (show Got X.K w σ H0 H ((boolsD n).map fun bs => (.bl (bs.all id), false)) Q from g)
          have e := q.boolsD hb
          subst e
          exact ⟨a, bs, rfl, SqL.of h, g.val R (.bl _)⟩
        | _ => exact g.elim⟩
  | .any, _, _ => ⟨_, cr_any hc, fun w σ H0 H xs ds Q R l i g => by
    cases i with
    | nil => exact g.elim
    | cons i r =>
      rename_i d _
      cases r with
      | cons _ _ => cases d <;> exact g.elim
      | nil => cases d with
        | lst n =>
          obtain ⟨a, vs, rfl, h, q⟩ := i.l R.ex
          obtain ⟨bs, hb, g⟩ := got_map (show Got X.K w σ H0 H ((boolsD n).map fun bs => (.bl (bs.any id), false)) Q from g)
          have e := q.boolsD hb
          subst e
          exact ⟨a, bs, rfl, SqL.of h, g.val R (.bl _)⟩
        | _ => exact g.elim⟩
  | .max, _, _ => ⟨_, cr_max hc, fun w σ H0 H xs ds Q R l i g => by
    cases i with
    | nil => exact g.elim
    | cons i r =>
      rename_i d _
      cases r with
      | cons _ _ => cases d <;> exact g.elim
      | nil => cases d with
        | lst n =>
          obtain ⟨a, vs, rfl, h, q⟩ := i.l R.ex
          obtain ⟨is, hb, g⟩ := got_bind (show Got X.K w σ H0 H ((intsD n).bind fun is => (maxI is).map fun m => (.int m, false)) Q from g)
          obtain ⟨m, hm, g⟩ := got_map g
          have e := q.intsD hb
          subst e
          refine ⟨a, is, rfl, SqL.of h, ?_, fun m' h1 h2 => ?_⟩
          · cases is with
            | nil => simp [maxI] at hm
            | cons _ _ => simp
          · have e := maxI_is is m' h1 h2
            rw [hm] at e; cases e
            exact g.val R (.int _)
        | _ => exact g.elim⟩
  | .min, _, _ => ⟨_, cr_min hc, fun w σ H0 H xs ds Q R l i g => by
    cases i with
    | nil => exact g.elim
    | cons i r =>
      rename_i d _
      cases r with
      | cons _ _ => cases d <;> exact g.elim
      | nil => cases d with
        | lst n =>
          obtain ⟨a, vs, rfl, h, q⟩ := i.l R.ex
          obtain ⟨is, hb, g⟩ := got_bind (show Got X.K w σ H0 H ((intsD n).bind fun is => (minI is).map fun m => (.int m, false)) Q from g)
          obtain ⟨m, hm, g⟩ := got_map g
          have e := q.intsD hb
          subst e
          refine ⟨a, is, rfl, SqL.of h, ?_, fun m' h1 h2 => ?_⟩
          · cases is with
            | nil => simp [minI] at hm
            | cons _ _ => simp
          · have e := minI_is is m' h1 h2
            rw [hm] at e; cases e
            exact g.val R (.int _)
        | _ => exact g.elim⟩
  | .tuple, _, _ => ⟨_, call_tuple_of, fun w σ H0 H xs ds Q R l i g => by
    cases i with
    | nil => exact g.elim
    | cons i r =>
      rename_i d _
      cases r with
      | cons _ _ => cases d <;> exact g.elim
      | nil => cases d with
        | lst n =>
          obtain ⟨a, vs, rfl, h, q⟩ := i.l R.ex
          exact ⟨a, vs, rfl, .inl ⟨SqL.of h, Got.tup R g q⟩⟩
        | tup n =>
          obtain ⟨a, vs, rfl, h, q⟩ := i.t R.ex
          exact ⟨a, vs, rfl, .inr ⟨R.ex.t h, Got.val R g (.tup h q)⟩⟩
        | _ => exact g.elim⟩
  | .list, _, _ => ⟨_, call_list_of, fun w σ H0 H xs ds Q R l i g => by
    cases i with
    | nil => exact g.elim
    | cons i r =>
      rename_i d _
      cases r with
      | cons _ _ => cases d <;> exact g.elim
      | nil => cases d with
        | lst n =>
          obtain ⟨a, vs, rfl, h, q⟩ := i.l R.ex
          exact ⟨a, vs, rfl, .inl (SqL.of h), Got.lst l R g q⟩
        | tup n =>
          obtain ⟨a, vs, rfl, h, q⟩ := i.t R.ex
          exact ⟨a, vs, rfl, .inr (R.ex.t h), Got.lst l R g q⟩
        | _ => exact g.elim⟩
  | .sorted, _, h => absurd rfl h
  | .lenset, h, _ => absurd rfl h
  | .join, h, _ => absurd rfl h
  | .ends, h, _ => absurd rfl h
  | .max0, h, _ => absurd rfl h

/-! ### places -/
theorem ix_ok {K : PySem.W.Frag} {F H : Hp} {μ : List Addr} {x y : V} {d e r : D} {Q : VK} (s : Sub F H) (i : Bo K F μ H x d) (j : Bo K F μ H y e) (h : ixD d e = some r) (q : ∀ v, Is K F μ v r → Q v H) : rIx K x y H Q := by
  cases e with
  | int n =>
    obtain rfl := j.i
    cases d with
    | lst ds =>
      obtain ⟨a, vs, rfl, ha, r⟩ := i.l s
      obtain ⟨k, hk, h⟩ := Option.bind_eq_some_iff.mp (show (ixOf ds.length n).bind (fun k => ds[k]?) = some _ from h)
      obtain ⟨v, hv, i⟩ := r.get h
      refine .inl ⟨a, vs, n, v, rfl, rfl, SqL.of ha, ?_, q v i⟩
      unfold atI
      rw [r.length, show ixN ds.length n = ixOf ds.length n from rfl, hk]
      exact hv
    | tup ds =>
      obtain ⟨a, vs, rfl, ha, r⟩ := i.t s
      obtain ⟨k, hk, h⟩ := Option.bind_eq_some_iff.mp (show (ixOf ds.length n).bind (fun k => ds[k]?) = some _ from h)
      obtain ⟨v, hv, i⟩ := r.get h
      refine .inr (.inl ⟨a, vs, n, v, rfl, rfl, s.t ha, ?_, q v i⟩)
      unfold atI
      rw [r.length, show ixN ds.length n = ixOf ds.length n from rfl, hk]
      exact hv
    | str l =>
      obtain ⟨z, rfl, rfl⟩ := i.s
      simp only [ixD] at h
      split at h
      · rename_i hl
        obtain ⟨c, hc, rfl⟩ := map_some h
        refine .inr (.inr ⟨z, n, c, rfl, rfl, by rw [len_str]; exact lim_le hl, hc, q _ ?_⟩)
        exact .str ⟨#[c]⟩
      · cases h
    | _ => cases h
  | _ => cases d <;> cases h
theorem sIx_eq (n : Nat) (d : Nat) (v : Int) (hd : d ≤ n) : (if v < 0 then (if v + (n : Int) < 0 then (0 : Int) else v + n) else if v < (n : Int) then v else n).toNat = HT.sIx n d (some v) := by
  show _ = (if v < 0 then (v + (n : Int)).toNat else min v.toNat n)
  by_cases h : v < 0
  · rw [if_pos h, if_pos h]; split <;> omega
  · rw [if_neg h, if_neg h]; split <;> omega
theorem cut_eq {α : Type} (xs : List α) (lo hi : Option Int) : cut xs lo hi = List.take (HT.sIx xs.length xs.length hi - HT.sIx xs.length 0 lo) (List.drop (HT.sIx xs.length 0 lo) xs) := by
  unfold cut
  rw [List.drop_take]
  have e1 : (match lo with | none => (0 : Int) | some i => if i < 0 then (if i + (xs.length : Int) < 0 then 0 else i + xs.length) else if i < (xs.length : Int) then i else xs.length).toNat = HT.sIx xs.length 0 lo := by
    cases lo with
    | none => rfl
    | some v => exact sIx_eq _ _ v (Nat.zero_le _)
  have e2 : (match hi with | none => (xs.length : Int) | some i => if i < 0 then (if i + (xs.length : Int) < 0 then 0 else i + xs.length) else if i < (xs.length : Int) then i else xs.length).toNat = HT.sIx xs.length xs.length hi := by
    cases hi with
    | none => exact Int.toNat_natCast _
    | some v => exact sIx_eq _ _ v (Nat.le_refl _)
  rw [← e1, ← e2]
  all_goals rfl
theorem sl_ok {X : Cx} {w : W} {σ : L2.St} {H0 H : Hp} {x : V} {d : D} {lo hi : Option Int} {Q : VK} (R : Rep X.K w σ H) (l : ∀ a, H a = none → H0 a = none) (i : Is X.K w.F w.μ x d) (g : Got X.K w σ H0 H (slD d lo hi) Q) :
    (rSlL X.K x lo hi H Q ∨ rSlA X.K x lo hi H Q) ∨ rSlS x lo hi H Q := by
  have cutI : ∀ {vs : List V} {ds : List D}, IsAll X.K w.F w.μ vs ds → IsAll X.K w.F w.μ (cutV vs lo hi) (cut ds lo hi) := fun {vs ds} r => by
    rw [cut_eq]
    unfold cutV
    rw [r.length]
    exact (r.drop _).take _
  cases i with
  | lst h r => exact .inl (.inl ⟨_, _, rfl, SqL.of (R.ex _ _ h), Got.lst l R g (cutI r)⟩)
  | tup h r =>
    refine .inl (.inr ⟨_, _, rfl, R.ex.t h, fun ⟨h1, h2⟩ => ?_, fun _ => Got.tup R g (cutI r)⟩)
    refine Got.val R g (.tup h ?_)
    rw [cut_eq]
    have e := r.length
    rw [e] at h1 h2
    rw [h1, h2, List.drop_zero, Nat.sub_zero, List.take_length]
    exact r
  | str z =>
    obtain ⟨h, g⟩ := Got.ite g
    refine .inr ⟨z, rfl, by rw [len_str]; exact lim_le h, Got.val R g ?_⟩
    have e : cut z.cps.toList lo hi = (cutS z lo hi).cps.toList := by
      rw [cut_eq]
      unfold cutS
      rw [len_str]
    rw [e]
    exact .str _
  | _ => exact g.elim
end Lm
set_option Elab.async false
set_option linter.all false
set_option maxRecDepth 100000
set_option maxHeartbeats 2000000
/-! The interpreter is sound, 5: slots; the readings of expressions. -/
namespace Lm
open PySem L2

theorem set_same {α : Type} {l : List α} {i : Nat} {x : α} (h : l[i]? = some x) : l.set i x = l := by
  apply List.ext_getElem?
  intro j
  by_cases e : i = j
  · subst e
    rw [List.getElem?_set_self (List.getElem?_eq_some_iff.mp h).1, h]
  · rw [List.getElem?_set_ne e]
section
variable {K : PySem.W.Frag} {w : W} {σ : L2.St} {H H0 : Hp} {i : Nat} {d : D} {o : Bool}
theorem Rep.slotLt (R : Rep K w σ H) {x : Option (D × Bool)} (h : w.s.r[i]? = some x) : i < σ.length := by
  rw [← R.len]; exact (List.getElem?_eq_some_iff.mp h).1
/-- a slot is read for good -/
theorem Rep.rd (R : Rep K w σ H) (e : w.s.r[i]? = some (some (d, o))) : ∃ w' v, w'.s = wr i (d, false) w.s ∧ Rep K w' σ H ∧ Step w H w' H ∧ σ[i]? = some (some v) ∧ Is K w'.F w'.μ v d := by
  cases o with
  | false =>
    obtain ⟨v, h1, h2⟩ := R.slot i d e
    refine ⟨w, v, ?_, R, Step.refl w H, h1, h2⟩
    unfold wr
    rw [set_same e]
  | true =>
    obtain ⟨vs, ds, rfl, h1, h2, h3⟩ := R.own i d e
    have ow : w.ow i := ⟨_, e⟩
    have nf := R.fr _ (.inr ⟨i, ow, rfl⟩)
    have hlt := (List.getElem?_eq_some_iff.mp e).1
    have up : Sub w.F (upd w.F (w.β i) (.lst vs)) := Sub.up nf
    have get : ∀ j x, (wr i (.lst ds, false) w.s).r[j]? = some (some x) → (j = i ∧ x = (.lst ds, false)) ∨ (j ≠ i ∧ w.s.r[j]? = some (some x)) := fun j x q => by
      by_cases c : i = j
      · subst c
        have q : (w.s.r.set i (some (.lst ds, false)))[i]? = some (some x) := q
        rw [List.getElem?_set_self hlt] at q
        exact .inl ⟨rfl, (Option.some.inj (Option.some.inj q)).symm⟩
      · have q : (w.s.r.set i (some (.lst ds, false)))[j]? = some (some x) := q
        rw [List.getElem?_set_ne c] at q
        exact .inr ⟨fun z => c z.symm, q⟩
    have ow' : ∀ j, W.ow ⟨upd w.F (w.β i) (.lst vs), w.μ, w.β, wr i (.lst ds, false) w.s⟩ j → w.ow j ∧ j ≠ i := fun j ⟨x, q⟩ => by
      rcases get j _ q with ⟨_, q⟩ | ⟨c, q⟩
      · cases q
      · exact ⟨⟨x, q⟩, c⟩
    have O' : ∀ a, W.O ⟨upd w.F (w.β i) (.lst vs), w.μ, w.β, wr i (.lst ds, false) w.s⟩ a → w.O a ∧ a ≠ w.β i := fun a h => by
      rcases h with h | ⟨j, h, q⟩
      · exact ⟨.inl h, fun z => R.dic i ow (by rw [← z]; exact h)⟩
      · obtain ⟨h, c⟩ := ow' j h
        have q : w.β j = a := q
        exact ⟨.inr ⟨j, h, q⟩, fun z => c (R.dis j i h ow (q.trans z))⟩
    refine ⟨⟨upd w.F (w.β i) (.lst vs), w.μ, w.β, wr i (.lst ds, false) w.s⟩, .ref (w.β i), rfl, ?_, ?_, h1, .lst upd_same (h3.mono up (Pre.refl _))⟩
    · refine ⟨fun b u q => ?_, by show (w.s.r.set _ _).length = _; rw [List.length_set]; exact R.len, fun j x q => ?_, fun j x q => ?_, fun k c q => ?_, R.clen, fun a h => ?_, R.nd, fun j k hj hk q => ?_, fun j hj => ?_⟩
      · have q : upd w.F (w.β i) (.lst vs) b = some u := q
        by_cases c : b = w.β i
        · subst c; rw [upd_same] at q; rw [h2]; exact q
        · rw [upd_ne c] at q; exact R.ex b u q
      · rcases get j _ q with ⟨e1, q⟩ | ⟨c, q⟩
        · cases q; rw [e1]; exact ⟨_, h1, .lst upd_same (h3.mono up (Pre.refl _))⟩
        · obtain ⟨v, a1, a2⟩ := R.slot j x q
          exact ⟨v, a1, a2.mono up (Pre.refl _)⟩
      · rcases get j _ q with ⟨e1, q⟩ | ⟨c, q⟩
        · cases q
        · obtain ⟨vs', ds', a0, a1, a2, a3⟩ := R.own j x q
          exact ⟨vs', ds', a0, a1, a2, a3.mono up (Pre.refl _)⟩
      · obtain ⟨b, h1, h2⟩ := R.cell k c q
        refine ⟨b, h1, ?_⟩
        revert h2
        cases c with
        | lst ds => exact fun ⟨vs, q, r⟩ => ⟨vs, q, r.mono up (Pre.refl _)⟩
      · obtain ⟨h, c⟩ := O' a h
        show upd w.F (w.β i) (.lst vs) a = none
        rw [upd_ne c]
        exact R.fr a h
      · exact R.dis j k (ow' j hj).1 (ow' k hk).1 q
      · exact R.dic j (ow' j hj).1
    · refine ⟨fun a u h _ => h, up, fun a u q => ?_, fun a h => .inl (O' a h).1, Pre.refl _, fun _ h => h⟩
      have q : upd w.F (w.β i) (.lst vs) a = some u := q
      by_cases c : a = w.β i
      · exact .inr (.inl (.inr ⟨i, ow, c.symm⟩))
      · rw [upd_ne c] at q; exact .inl q
/-- a slot is looked at -/
theorem Rep.look (R : Rep K w σ H) {s' : S} (h : look i w.s = .ok d s') : s' = w.s ∧ ∃ v, σ[i]? = some (some v) ∧ Bo K w.F w.μ H v d := by
  unfold Lm.look at h
  split at h
  · rename_i k o' e
    have hs : ∃ v, σ[i]? = some (some v) ∧ Is K w.F w.μ v (.obj k) := by
      cases o' with
      | false => exact R.slot i _ e
      | true => obtain ⟨_, _, q, _⟩ := R.own i _ e; cases q
    obtain ⟨v, h1, h2⟩ := hs
    cases h2 with
    | obj hk =>
      split at h
      · rename_i xs hc
        cases h
        obtain ⟨a, ha, vs, hv, hr⟩ := R.cell k _ hc
        rw [hk] at ha; cases ha
        exact ⟨rfl, _, h1, .own hv hr⟩
      · cases h
  · rename_i p _ e
    cases h
    obtain ⟨d, o⟩ := p
    cases o with
    | false =>
      obtain ⟨v, h1, h2⟩ := R.slot i _ e
      exact ⟨rfl, v, h1, .is h2⟩
    | true =>
      obtain ⟨vs, ds, q, h1, h2, h3⟩ := R.own i _ e
      cases q
      exact ⟨rfl, _, h1, .own h2 h3⟩
  · cases h
end

/-- an operand: a name is only looked at -/
def opnd (K : PySem.W.Frag) (C : Ctx) : T → TE
  | .v i => tVar i
  | t => tF K C t
section
variable {K : PySem.W.Frag} {C : Ctx} {w : W} {σ : L2.St} {H : Hp} {a b t : T}
theorem Post.look {β : Type} {i : Nat} {f : D → S → R β} {N : β → W → Hp → Prop} (R : Rep K w σ H) (P : Post K w σ H ((look i w.s).bind f) N) : ∃ d v, σ[i]? = some (some v) ∧ Bo K w.F w.μ H v d ∧ Lm.look i w.s = .ok d w.s ∧ Post K w σ H (f d w.s) N := by
  cases e : Lm.look i w.s with
  | ok d s' =>
    obtain ⟨e', v, h1, h2⟩ := R.look e
    subst e'
    rw [e] at P
    exact ⟨d, v, h1, h2, rfl, P⟩
  | exc _ _ _ => rw [e] at P; exact P.elim
  | bad => rw [e] at P; exact P.elim
theorem opnd_f {t : T} (h : ∀ i, t ≠ .v i) : opnd K C t = tF K C t := by
  cases t <;> first | rfl | exact absurd rfl (h _)
theorem ev2_f {a b : T} {ea eb : S → R (D × Bool)} (ha : ∀ i, a ≠ .v i) (hb : ∀ i, b ≠ .v i) (s : S) : ev2 a b ea eb s = (ea s).bind fun x s1 => (eb s1).bind fun y s2 => .ok (x.1, y.1) s2 := by
  cases a <;> first | exact absurd rfl (ha _) | (cases b <;> first | exact absurd rfl (hb _) | rfl)
theorem ev2_vf {i : Nat} {b : T} {ea eb : S → R (D × Bool)} (hb : ∀ i, b ≠ .v i) (s : S) : ev2 (.v i) b ea eb s = (look i s).bind fun _ s0 => (eb s0).bind fun y s1 => (look i s1).bind fun x s2 => .ok (x, y.1) s2 := by
  cases b <;> first | exact absurd rfl (hb _) | rfl
theorem ev2_fv {j : Nat} {a : T} {ea eb : S → R (D × Bool)} (ha : ∀ i, a ≠ .v i) (s : S) : ev2 a (.v j) ea eb s = (ea s).bind fun x s1 => (look j s1).bind fun y s2 => .ok (x.1, y) s2 := by
  cases a <;> first | exact absurd rfl (ha _) | rfl
theorem isV (t : T) : (∃ i, t = .v i) ∨ ∀ i, t ≠ .v i := by
  cases t <;> first | exact .inl ⟨_, rfl⟩ | exact .inr (fun i h => by cases h)
/-- two operands -/
theorem op2 {r : R2} {Q : VK} {N : D × D → W → Hp → Prop} (R : Rep K w σ H) (P : Post K w σ H (ev2 a b (fun s => ev C a s) (fun s => ev C b s) w.s) N)
    (h : ∀ p w' H' v u, Rep K w' σ H' → Step w H w' H' → N p w' H' → Bo K w'.F w'.μ H' v p.1 → Bo K w'.F w'.μ H' u p.2 → r v u H' Q) : tOp r (opnd K C a) (opnd K C b) σ H Q := by
  rcases isV a with ⟨i, rfl⟩ | ha
  · rcases isV b with ⟨j, rfl⟩ | hb
    · obtain ⟨x, v, h1, h2, _, P⟩ := Post.look R P
      obtain ⟨y, u, h3, h4, _, P⟩ := Post.look R P
      exact ⟨v, h1, u, h3, h _ w H v u R (Step.refl w H) (Post.here R P) h2 h4⟩
    · rw [ev2_vf hb] at P
      obtain ⟨x, v, h1, _, _, P⟩ := Post.look R P
      refine ⟨v, h1, ?_⟩
      rw [opnd_f hb]
      refine tF_of R P.bind fun y w1 H1 u R1 S1 P1 i1 => ?_
      obtain ⟨x', v', h3, h4, _, P1⟩ := Post.look R1 P1
      rw [h1] at h3; cases h3
      exact h _ w1 H1 v u R1 S1 (Post.here R1 P1) h4 (.is i1)
  · rw [opnd_f ha]
    rcases isV b with ⟨j, rfl⟩ | hb
    · rw [ev2_fv ha] at P
      refine tF_of R P.bind fun x w1 H1 v R1 S1 P1 i1 => ?_
      obtain ⟨y, u, h1, h2, _, P1⟩ := Post.look R1 P1
      exact ⟨u, h1, h _ w1 H1 v u R1 S1 (Post.here R1 P1) (.is i1) h2⟩
    · rw [ev2_f ha hb] at P
      rw [opnd_f hb]
      refine tF_of R P.bind fun x w1 H1 v R1 S1 P1 i1 => ?_
      refine tF_of R1 P1.bind fun y w2 H2 u R2 S2 P2 i2 => ?_
      exact h _ w2 H2 v u R2 (S1.trans S2) (Post.here R2 P2) (.is (i1.mono S2.sub S2.pre)) (.is i2)
end
section
variable {X : Cx} {C : Ctx} {e e1 e2 e3 : Expr} {a b c t : T} {pos : Pos}
theorem se_v {i : Nat} (h : PE X e (tVar i)) : PE X e (tE X.K C (.v i)) := PE.imp h fun σ H Q ⟨w, R, P⟩ => by
  have P : Post X.K w σ H ((Lm.rd i w.s).bind fun d s1 => .ok (d, false) (wr i (d, false) s1)) _ := P
  unfold Lm.rd at P
  cases q : w.s.r[i]? with
  | none => rw [q] at P; exact P.elim
  | some x =>
    cases x with
    | none => rw [q] at P; exact P.elim
    | some p =>
      rw [q] at P
      obtain ⟨d, o⟩ := p
      obtain ⟨w', v, h1, R', S', h2, h3⟩ := R.rd q
      exact ⟨v, h2, P w' H h1 R' S' v h3⟩
theorem se_c {d : D} {v : V} (h : PE X e (tC v)) (hi : ∀ F μ, Is X.K F μ v d) : PE X e (tE X.K C (.c d)) := PE.imp h fun σ H Q ⟨w, R, P⟩ => Post.here R P v (hi _ _)
/-- the rest of an argument list -/
theorem sa_nil : PA X [] (tAs X.K C []) := PA.imp pa_nil fun σ H Q ⟨w, R, P⟩ => Post.here R P [] .nil
theorem sa_cons {es : List Expr} {as : List T} (ha : PE X e (tE X.K C a)) (hr : PA X es (tAs X.K C as)) (hs : starEach (e :: es) X.env = (false, eval e X.env) :: starEach es X.env) : PA X (e :: es) (tAs X.K C (a :: as)) :=
  PA.imp (pa_cons (PE.fz ha) hr hs) fun σ H Q ⟨w, R, P⟩ => by
    refine tF_of R (Post.bind P) fun x w1 H1 v R1 S1 P1 i1 => ?_
    refine tAs_of R1 (Post.bind P1) fun xs w2 H2 vs R2 S2 P2 i2 => ?_
    exact Post.here R2 P2 _ (.cons (i1.mono S2.sub S2.pre) i2)
theorem se_tup {es : List Expr} {as : List T} {k : Nat} (h : PA X es (tAs X.K C as)) : PE X (.Tuple es k pos) (tE X.K C (.tup as)) := PE.imp (pe_tup h) fun σ H Q ⟨w, R, P⟩ => by
  refine tAs_of R (Post.bind P) fun ds w1 H1 vs R1 S1 P1 i1 => ?_
  by_cases hl : ds.length ≤ lim
  · simp only [if_pos hl] at P1
    exact ⟨by rw [i1.length]; exact lim_le hl, Got.tup (H0 := H) R1 P1 i1⟩
  · simp only [if_neg hl] at P1; exact P1.elim
theorem se_lst {es : List Expr} {as : List T} (h : PA X es (tAs X.K C as)) : PE X (.List es pos) (tE X.K C (.lst as)) := PE.imp (pe_lst h) fun σ H Q ⟨w, R, P⟩ => by
  refine tAs_of R (Post.bind P) fun ds w1 H1 vs R1 S1 P1 i1 => ?_
  by_cases hl : ds.length ≤ lim
  · simp only [if_pos hl] at P1
    exact ⟨by rw [i1.length]; exact lim_le hl, Got.lst S1.live R1 P1 i1⟩
  · simp only [if_neg hl] at P1; exact P1.elim
theorem se_bin {o : BOp} (ha : PE X e1 (tE X.K C a)) (hb : PE X e2 (tE X.K C b)) : PE X (.BinOp e1 (opOf o) e2 pos) (tE X.K C (.bin o a b)) := by
  obtain ⟨r, h1, h2⟩ := bin_ok X o
  refine PE.imp (pe_op h1 (PE.fz ha) (PE.fz hb)) fun σ H Q ⟨w, R, P⟩ => ?_
  refine tF_of R (Post.bind P) fun x w1 H1 v R1 S1 P1 i1 => ?_
  refine tF_of R1 (Post.bind P1) fun y w2 H2 u R2 S2 P2 i2 => ?_
  exact h2 w2 σ H H2 v u x.1 y.1 Q R2 (S1.trans S2).live (i1.mono S2.sub S2.pre) i2 P2
theorem se_cmp {o : COp} (hu : X.A.units + 64 < cLine) (ha : PE X e1 (opnd X.K C a)) (hb : PE X e2 (opnd X.K C b)) (hm : behindInMarks (cOf o) e2 = false) :
    PE X (.Compare e1 [cOf o] [e2] pos) (tE X.K C (.cmp o a b)) ∧ PT X (.Compare e1 [cOf o] [e2] pos) (tB2 X.K C (.cmp o a b)) := by
  obtain ⟨r, h1, h2⟩ := cmp_ok X hu o
  constructor
  · refine PE.imp (pe_cmpR h1 ha hb hm) fun σ H Q ⟨w, R, P⟩ => ?_
    refine op2 R (Post.bind P) fun p w1 H1 v u R1 S1 P1 i1 i2 => ?_
    obtain ⟨k, hk, P2⟩ := Post.of (Post.bind P1)
    have P2 := Post.here R1 P2
    exact h2 w1.F H1 w1.μ v u p.1 p.2 k Q R1.ex i1 i2 hk (Post.here R1 P2 (.bl k) (.bl k))
  · refine PT.imp (pt_cmpR h1 ha hb hm) fun σ H Q ⟨w, R, P⟩ => ?_
    refine op2 (Q := fun x H' => ∃ k, x = .bl k ∧ Q k H') R (Post.bind (Post.bind P)) fun p w1 H1 v u R1 S1 P1 i1 i2 => ?_
    obtain ⟨k, hk, P2⟩ := Post.of (Post.bind P1)
    have P2 := Post.here R1 P2
    exact h2 w1.F H1 w1.μ v u p.1 p.2 k _ R1.ex i1 i2 hk ⟨k, rfl, Post.here R1 (Post.here R1 P2)⟩
end
end Lm
set_option Elab.async false
set_option linter.all false
set_option maxRecDepth 100000
set_option maxHeartbeats 2000000
/-! The interpreter is sound, 6: more expressions. -/
namespace Lm
open PySem L2

/-! ### syntax that is as it looks -/
def noStar : Expr → Bool
  | .Starred _ _ => false
  | _ => true
def noSlice : Expr → Bool
  | .Slice _ _ _ _ => false
  | _ => true
def noSuper : Expr → Bool
  | .Call _ _ _ _ => false
  | _ => true
theorem star_ok {e : Expr} {es : List Expr} {env : Env} (h : noStar e = true) : starEach (e :: es) env = (false, eval e env) :: starEach es env := by
  cases e <;> first | rfl | cases h
theorem stars_ok {pos : Pos} {env : Env} : ∀ {es : List Expr}, es.all noStar = true → (backTo pos (starEach es env)).any (·.1) = false
  | [], _ => rfl
  | e :: es, h => by
    rw [List.all_cons, Bool.and_eq_true] at h
    rw [star_ok h.1]
    show (false || (backTo pos (starEach es env)).any (·.1)) = false
    rw [stars_ok h.2]; rfl
theorem plainIx_ok {e : Expr} (h : noSlice e = true) : PlainIx e := fun o i => by
  cases e <;> first | rfl | cases h
theorem base_ok {o : Expr} {name : Str} {env : Env} {w : Sem Value} (h : noSuper o = true) : attributeBase o name env w = w := by
  cases o <;> first | rfl | cases h

/-! ### tests -/
theorem asB_bl {d : D} {b : Bool} (h : asB d = some b) : d = .bl b := by
  cases d <;> simp [asB] at h
  rw [h]
section
variable {K : PySem.W.Frag} {C : Ctx} {w : W} {σ : L2.St} {H : Hp} {t : T}
theorem is_bl {F : Hp} {μ : List Addr} {v : V} {b : Bool} (h : Is K F μ v (.bl b)) : v = .bl b := by cases h; rfl
theorem tB2_of {Q : Bool → Hp → Prop} {N : Bool → W → Hp → Prop} (R : Rep K w σ H) (P : Post K w σ H ((ev C t w.s).bind fun x s1 => Lm.R.of (asB x.1) s1) N) (h : ∀ b w' H', Rep K w' σ H' → Step w H w' H' → N b w' H' → Q b H') : tB2 K C t σ H Q :=
  ⟨w, R, P.imp fun a w' H' R' S' n => h a w' H' R' S' n⟩
end
theorem R.bind_assoc {α β γ : Type} (m : R α) (f : α → S → R β) (g : β → S → R γ) : (m.bind f).bind g = m.bind fun a s => (f a s).bind g := by cases m <;> rfl
section
variable {X : Cx} {C : Ctx} {e e1 e2 e3 : Expr} {a b c t : T} {pos : Pos}
/-- a test from a value -/
theorem st_val (h : PE X e (tE X.K C t)) (he : ∀ whole, isTrue e X.env whole = (do let v ← whole; standAt e.pos; holding [v] (truthy v))) : PT X e (tB2 X.K C t) :=
  PT.imp (pt_val (PE.fz h) he) fun σ H Q ⟨w, R, P⟩ => by
    refine tF_of R (Post.bind P) fun x w1 H1 v R1 S1 P1 i1 => ?_
    obtain ⟨k, hk, P2⟩ := Post.of P1
    have e := asB_bl hk
    rw [e] at i1
    exact ⟨k, is_bl i1, Post.here R1 P2⟩
theorem se_not (h : PE X e (tE X.K C t)) : PE X (.UnaryOp .Not e pos) (tE X.K C (.not_ t)) := PE.imp (pe_not (PE.fz h)) fun σ H Q ⟨w, R, P⟩ => by
  refine tF_of R (Post.bind P) fun x w1 H1 v R1 S1 P1 i1 => ?_
  obtain ⟨k, hk, P2⟩ := Post.of (Post.bind P1)
  have e := asB_bl hk
  rw [e] at i1
  exact ⟨k, is_bl i1, Post.here R1 (Post.here R1 P2) _ (.bl _)⟩
theorem st_not (h : PT X e (tB2 X.K C t)) : PT X (.UnaryOp .Not e pos) (tB2 X.K C (.not_ t)) := PT.imp (pt_not h) fun σ H Q ⟨w, R, P⟩ => by
  have P : Post X.K w σ H (((ev C t w.s).bind fun x s1 => (Lm.R.of (asB x.1) s1).bind fun b s2 => .ok (.bl !b, false) s2).bind fun x s1 => Lm.R.of (asB x.1) s1) _ := P
  rw [show ((ev C t w.s).bind fun x s1 => (Lm.R.of (asB x.1) s1).bind fun b s2 => Lm.R.ok (D.bl !b, false) s2) = ((ev C t w.s).bind fun x s1 => Lm.R.of (asB x.1) s1).bind fun b s2 => Lm.R.ok (D.bl !b, false) s2 from (Lm.R.bind_assoc _ _ _).symm] at P
  refine tB2_of R (Post.bind (Post.bind P)) fun b w1 H1 R1 S1 P1 => ?_
  exact Post.here R1 (Post.here R1 P1)
theorem se_neg (h : PE X e (tE X.K C t)) : PE X (.UnaryOp .USub e pos) (tE X.K C (.neg t)) := PE.imp (pe_un un_neg (PE.fz h)) fun σ H Q ⟨w, R, P⟩ => by
  refine tF_of R (Post.bind P) fun x w1 H1 v R1 S1 P1 i1 => ?_
  obtain ⟨x, o⟩ := x
  cases i1 <;> first | exact P1.elim | exact ⟨_, rfl, Post.here R1 P1 _ (.int _)⟩
theorem st_and {op : BoolOp} {rest : List Expr} (ha : PT X e1 (tB2 X.K C a)) (hb : PW X (.BoolOp .And (e2 :: rest) pos) (tB2 X.K C b)) : PW X (.BoolOp .And (e1 :: e2 :: rest) pos) (tB2 X.K C (.and_ a b)) := by
  refine ⟨fun wh pins s σ H Q I hh => (pw_and ha hb).run wh pins s σ H Q I ?_⟩
  obtain ⟨w, R, P⟩ := hh
  have P : Post X.K w σ H (((ev C a w.s).bind fun x s1 => (Lm.R.of (asB x.1) s1).bind fun c s2 => if c then (ev C b s2).bind fun y s3 => (Lm.R.of (asB y.1) s3).bind fun d s4 => .ok (.bl d, false) s4 else .ok (.bl false, false) s2).bind fun x s1 => Lm.R.of (asB x.1) s1) _ := P
  rw [← Lm.R.bind_assoc] at P
  refine tB2_of R (Post.bind (Post.bind P)) fun k w1 H1 R1 S1 P1 => ?_
  cases k with
  | true =>
    rw [if_pos rfl]
    simp only [if_pos] at P1
    rw [← Lm.R.bind_assoc] at P1
    exact tB2_of R1 (Post.bind P1) fun k w2 H2 R2 S2 P2 => Post.here R2 (Post.here R2 P2)
  | false =>
    rw [if_neg Bool.false_ne_true]
    exact Post.here R1 (Post.here R1 P1)
theorem st_or {op : BoolOp} {rest : List Expr} (ha : PT X e1 (tB2 X.K C a)) (hb : PW X (.BoolOp .Or (e2 :: rest) pos) (tB2 X.K C b)) : PW X (.BoolOp .Or (e1 :: e2 :: rest) pos) (tB2 X.K C (.or_ a b)) := by
  refine ⟨fun wh pins s σ H Q I hh => (pw_or ha hb).run wh pins s σ H Q I ?_⟩
  obtain ⟨w, R, P⟩ := hh
  have P : Post X.K w σ H (((ev C a w.s).bind fun x s1 => (Lm.R.of (asB x.1) s1).bind fun c s2 => if c then .ok (.bl true, false) s2 else (ev C b s2).bind fun y s3 => (Lm.R.of (asB y.1) s3).bind fun d s4 => .ok (.bl d, false) s4).bind fun x s1 => Lm.R.of (asB x.1) s1) _ := P
  rw [← Lm.R.bind_assoc] at P
  refine tB2_of R (Post.bind (Post.bind P)) fun k w1 H1 R1 S1 P1 => ?_
  cases k with
  | false =>
    rw [if_neg Bool.false_ne_true]
    simp only [Bool.false_eq_true, if_false] at P1
    rw [← Lm.R.bind_assoc] at P1
    exact tB2_of R1 (Post.bind P1) fun k w2 H2 R2 S2 P2 => Post.here R2 (Post.here R2 P2)
  | true =>
    rw [if_pos rfl]
    exact Post.here R1 (Post.here R1 P1)
theorem se_and {rest : List Expr} (ha : PE X e1 (tE X.K C a)) (hb : PE X (.BoolOp .And (e2 :: rest) pos) (tE X.K C b)) : PE X (.BoolOp .And (e1 :: e2 :: rest) pos) (tE X.K C (.and_ a b)) := PE.imp (pe_and (PE.fz ha) (PE.fz hb)) fun σ H Q ⟨w, R, P⟩ => by
  refine tF_of R (Post.bind P) fun x w1 H1 v R1 S1 P1 i1 => ?_
  obtain ⟨k, hk, P2⟩ := Post.of (Post.bind P1)
  have e := asB_bl hk
  rw [e] at i1
  refine ⟨k, is_bl i1, ?_⟩
  have P3 := Post.here R1 P2
  cases k with
  | true =>
    rw [if_pos rfl]
    simp only [if_pos] at P3
    refine tF_of R1 (Post.bind P3) fun y w2 H2 u R2 S2 P4 i2 => ?_
    obtain ⟨k, hk, P5⟩ := Post.of (Post.bind P4)
    have e := asB_bl hk
    rw [e] at i2
    rw [is_bl i2]
    exact Post.here R2 (Post.here R2 P5) _ (.bl _)
  | false =>
    rw [if_neg Bool.false_ne_true]
    exact Post.here R1 P3 _ (.bl _)
theorem se_or {rest : List Expr} (ha : PE X e1 (tE X.K C a)) (hb : PE X (.BoolOp .Or (e2 :: rest) pos) (tE X.K C b)) : PE X (.BoolOp .Or (e1 :: e2 :: rest) pos) (tE X.K C (.or_ a b)) := PE.imp (pe_or (PE.fz ha) (PE.fz hb)) fun σ H Q ⟨w, R, P⟩ => by
  refine tF_of R (Post.bind P) fun x w1 H1 v R1 S1 P1 i1 => ?_
  obtain ⟨k, hk, P2⟩ := Post.of (Post.bind P1)
  have e := asB_bl hk
  rw [e] at i1
  refine ⟨k, is_bl i1, ?_⟩
  have P3 := Post.here R1 P2
  cases k with
  | false =>
    rw [if_neg Bool.false_ne_true]
    simp only [Bool.false_eq_true, if_false] at P3
    refine tF_of R1 (Post.bind P3) fun y w2 H2 u R2 S2 P4 i2 => ?_
    obtain ⟨k, hk, P5⟩ := Post.of (Post.bind P4)
    have e := asB_bl hk
    rw [e] at i2
    rw [is_bl i2]
    exact Post.here R2 (Post.here R2 P5) _ (.bl _)
  | true =>
    rw [if_pos rfl]
    exact Post.here R1 P3 _ (.bl _)
theorem val_start {K : PySem.W.Frag} {w : W} {H H1 H2 : Hp} {v : V} {p : D × Bool} (l : ∀ a, H1 a = none → H a = none) (h : w.val K H1 H2 v p) : w.val K H H2 v p := by
  obtain ⟨d, o⟩ := p
  cases o with
  | false => exact h
  | true =>
    obtain ⟨a, vs, ds, q1, q2, q3, q4, q5, q6, q7⟩ := h
    exact ⟨a, vs, ds, q1, q2, q3, q4, l a q5, q6, q7⟩
theorem se_ife (hc : PT X e3 (tB2 X.K C c)) (ha : PE X e1 (tE X.K C a)) (hb : PE X e2 (tE X.K C b)) : PE X (.IfExp e3 e1 e2 pos) (tE X.K C (.ife c a b)) := PE.imp (pe_ifExp hc ha hb) fun σ H Q ⟨w, R, P⟩ => by
  have P : Post X.K w σ H ((ev C c w.s).bind fun x s1 => (Lm.R.of (asB x.1) s1).bind fun k s2 => if k then ev C a s2 else ev C b s2) _ := P
  rw [← Lm.R.bind_assoc] at P
  refine tB2_of R (Post.bind P) fun k w1 H1 R1 S1 P1 => ?_
  cases k with
  | true =>
    rw [if_pos rfl]
    simp only [if_pos] at P1
    exact ⟨w1, R1, P1.imp fun p w2 H2 R2 S2 n v i => n v (val_start S1.live i)⟩
  | false =>
    rw [if_neg Bool.false_ne_true]
    simp only [Bool.false_eq_true, if_false] at P1
    exact ⟨w1, R1, P1.imp fun p w2 H2 R2 S2 n v i => n v (val_start S1.live i)⟩
theorem se_chain {o p : COp} (hu : X.A.units + 64 < cLine) (ha : PE X e1 (tE X.K C a)) (hb : PE X e2 (tE X.K C b)) (hc : PE X e3 (tE X.K C c)) (hm : lastMarks [cOf o, cOf p] [e2, e3] = false) :
    PE X (.Compare e1 [cOf o, cOf p] [e2, e3] pos) (tE X.K C (.chain o p a b c)) ∧ PT X (.Compare e1 [cOf o, cOf p] [e2, e3] pos) (tB2 X.K C (.chain o p a b c)) := by
  obtain ⟨r1, h1, h2⟩ := cmp_ok X hu o
  obtain ⟨r2, h3, h4⟩ := cmp_ok X hu p
  have key : ∀ (σ : L2.St) (H : Hp) (w : W) (Q : Bool → Hp → Prop) (Q' : VK) (N : D × Bool → W → Hp → Prop), (∀ k H', Q k H' → Q' (.bl k) H') → Rep X.K w σ H → Post X.K w σ H (ev C (.chain o p a b c) w.s) N → (∀ k w' H', Rep X.K w' σ H' → N (.bl k, false) w' H' → Q k H') →
      tChain r1 r2 (tF X.K C a) (tF X.K C b) (tF X.K C c) σ H Q' := by
    intro σ H w Q Q' N hQ R P hN
    refine tF_of R (Post.bind P) fun x w1 H1 v R1 S1 P1 i1 => ?_
    refine tF_of R1 (Post.bind P1) fun y w2 H2 u R2 S2 P2 i2 => ?_
    obtain ⟨k, hk, P3⟩ := Post.of (Post.bind P2)
    have P4 := Post.here R2 P3
    have i1' := i1.mono S2.sub S2.pre
    refine h2 w2.F H2 w2.μ v u x.1 y.1 k _ R2.ex (.is i1') (.is i2) hk ⟨k, rfl, ?_⟩
    cases k with
    | true =>
      rw [if_pos rfl]
      simp only [if_pos] at P4
      refine tF_of R2 (Post.bind P4) fun z w3 H3 t R3 S3 P5 i3 => ?_
      obtain ⟨k, hk, P6⟩ := Post.of (Post.bind P5)
      exact h4 w3.F H3 w3.μ u t y.1 z.1 k _ R3.ex (.is (i2.mono S3.sub S3.pre)) (.is i3) hk (hQ _ _ (hN k w3 H3 R3 (Post.here R3 (Post.here R3 P6))))
    | false =>
      rw [if_neg Bool.false_ne_true]
      exact hQ _ _ (hN false w2 H2 R2 (Post.here R2 P4))
  constructor
  · refine PE.imp (pe_chain h1 h3 (PE.fz ha) (PE.fz hb) (PE.fz hc) hm) fun σ H Q ⟨w, R, P⟩ => ?_
    exact key σ H w (fun k H' => Q (.bl k) H') Q _ (fun _ _ h => h) R P fun k w' H' R' n => n _ (.bl _)
  · refine PT.imp (pt_chain h1 h3 (PE.fz ha) (PE.fz hb) (PE.fz hc) hm) fun σ H Q ⟨w, R, P⟩ => ?_
    exact key σ H w Q _ _ (fun k _ h => ⟨k, rfl, h⟩) R (Post.bind P) fun k w' H' R' n => Post.here R' n
theorem se_ix (ha : PE X e1 (opnd X.K C a)) (hb : PE X e2 (opnd X.K C b)) (hs : noSlice e2 = true) : PE X (.Subscript e1 e2 pos) (tE X.K C (.ix a b)) := PE.imp (pe_ix ix_seq ha hb (plainIx_ok hs)) fun σ H Q ⟨w, R, P⟩ => by
  refine op2 R (Post.bind P) fun p w1 H1 v u R1 S1 P1 i1 i2 => ?_
  obtain ⟨d, hd, P2⟩ := Post.of (Post.bind P1)
  exact ix_ok R1.ex i1 i2 hd fun v i => Post.here R1 (Post.here R1 P2) v i
/-- a part of a slice -/
theorem so_some (h : PE X e (tE X.K C t)) : PO X (some e) (tPart (tF X.K C t)) := po_some (PE.fz h)
theorem part_none {σ : L2.St} {H : Hp} {w : W} {Q : Option Int → Hp → Prop} {N : Option Int → W → Hp → Prop} (R : Rep X.K w σ H) (P : Post X.K w σ H (evPart .none_ (fun s => ev C .none_ s) w.s) N) (h : ∀ l w' H', Rep X.K w' σ H' → Step w H w' H' → N l w' H' → Q l H') : tNoPart σ H Q :=
  h none w H R (Step.refl w H) (Post.here R P)
theorem part_some {σ : L2.St} {H : Hp} {w : W} {Q : Option Int → Hp → Prop} {N : Option Int → W → Hp → Prop} (ht : t ≠ .none_) (R : Rep X.K w σ H) (P : Post X.K w σ H (evPart t (fun s => ev C t s) w.s) N) (h : ∀ l w' H', Rep X.K w' σ H' → Step w H w' H' → N l w' H' → Q l H') : tPart (tF X.K C t) σ H Q := by
  have e : evPart t (fun s => ev C t s) w.s = (ev C t w.s).bind fun x s1 => match x.1 with | .int i => .ok (some i) s1 | _ => .bad := by
    cases t <;> first | rfl | exact absurd rfl ht
  rw [e] at P
  refine tF_of R (Post.bind P) fun x w1 H1 v R1 S1 P1 i1 => ?_
  obtain ⟨x, o⟩ := x
  cases i1 <;> first | exact P1.elim | exact ⟨_, rfl, h _ w1 H1 R1 S1 (Post.here R1 P1)⟩
def partT (K : PySem.W.Frag) (C : Ctx) : T → TO
  | .none_ => tNoPart
  | t => tPart (tF K C t)
theorem part_ok {σ : L2.St} {H : Hp} {w : W} {Q : Option Int → Hp → Prop} {N : Option Int → W → Hp → Prop} (R : Rep X.K w σ H) (P : Post X.K w σ H (evPart t (fun s => ev C t s) w.s) N) (h : ∀ l w' H', Rep X.K w' σ H' → Step w H w' H' → N l w' H' → Q l H') : partT X.K C t σ H Q := by
  by_cases c : t = .none_
  · subst c; exact part_none R P h
  · have e : partT X.K C t = tPart (tF X.K C t) := by cases t <;> first | rfl | exact absurd rfl c
    rw [e]
    exact part_some c R P h
theorem se_sl {lo hi : Option Expr} {p2 : Pos} {l h : T} (ha : PE X e (tE X.K C a)) (hl : PO X lo (partT X.K C l)) (hh : PO X hi (partT X.K C h)) : PE X (.Subscript e (.Slice lo hi none p2) pos) (tE X.K C (.sl a l h)) :=
  PE.imp (pe_slice ((sl_list.or sl_tupA).or sl_str) (PE.fz ha) hl hh) fun σ H Q ⟨w, R, P⟩ => by
    refine tF_of R (Post.bind P) fun x w1 H1 v R1 S1 P1 i1 => ?_
    refine part_ok R1 (Post.bind P1) fun l w2 H2 R2 S2 P2 => ?_
    refine part_ok R2 (Post.bind P2) fun h w3 H3 R3 S3 P3 => ?_
    exact sl_ok (H0 := H) R3 ((S1.trans S2).trans S3).live (i1.mono (S2.trans S3).sub (S2.trans S3).pre) P3
theorem se_isi {k : Kd} {x : Str} {p p2 : Pos} (ha : PE X e (tE X.K C a)) (hst : noStar e = true) (hg : Gl X "isinstance") (hm : X.mg "isinstance" = none) (hg2 : Gl X x) (hm2 : X.mg x = none) (hv : bootBuiltins x = some (.type (kName k))) (hn : x ≠ "__name__") (hd : (x == ("__debug__" : Str)) = false) :
    PE X (.Call (.Name "isinstance" p) [e, .Name x p2] [] pos) (tE X.K C (.isi a k)) := by
  have h2 : PA X [.Name x p2] (tCons (tC (.ty (kName k))) tNil) := pa_cons (pe_bltn hg2 hm2 hv (v := .ty (kName k)) rfl hn hd) pa_nil
  refine PE.imp (pe_callB call_isi hg hm (by decide +kernel) (pa_cons (PE.fz ha) h2 (star_ok hst)) (by decide) (by decide) (star_ok hst) (by rfl)) fun σ H Q ⟨w, R, P⟩ => ?_
  refine tF_of R (Post.bind P) fun y w1 H1 v R1 S1 P1 i1 => ?_
  obtain ⟨b, hb, P2⟩ := Post.of (Post.bind P1)
  obtain ⟨t, h1, h2⟩ := isi_ok R1.ex i1 hb
  exact ⟨v, _, t, _, b, rfl, .ty _, h1, h2, Post.here R1 (Post.here R1 P2) _ (.bl _)⟩
/-- an argument list of which a single name is only looked at -/
def tLook (K : PySem.W.Frag) (C : Ctx) : List T → TA
  | [.v i] => tCons (tVar i) tNil
  | as => tAs K C as
theorem evb_ok {σ : L2.St} {H : Hp} {w : W} {as : List T} {Q : List V → Hp → Prop} {N : List D → W → Hp → Prop} (R : Rep X.K w σ H) (P : Post X.K w σ H (evb as (fun s => evs C as s) w.s) N)
    (h : ∀ ds w' H' vs, Rep X.K w' σ H' → Step w H w' H' → N ds w' H' → BoAll X.K w'.F w'.μ H' vs ds → Q vs H') : tLook X.K C as σ H Q := by
  have gen : evb as (fun s => evs C as s) w.s = evs C as w.s → tLook X.K C as = tAs X.K C as → tLook X.K C as σ H Q := fun e1 e2 => by
    rw [e2]
    rw [e1] at P
    exact tAs_of R P fun ds w1 H1 vs R1 S1 P1 i1 => h ds w1 H1 vs R1 S1 P1 (.of i1)
  match as, P, gen with
  | [], P, gen => exact gen rfl rfl
  | [.v i], P, gen =>
    obtain ⟨d, v, h1, h2, _, P⟩ := Post.look R P
    exact ⟨v, h1, h [d] w H [v] R (Step.refl w H) (Post.here R P) (.cons h2 .nil)⟩
  | [.c _], P, gen | [.tup _], P, gen | [.lst _], P, gen | [.bin _ _ _], P, gen | [.neg _], P, gen | [.not_ _], P, gen | [.and_ _ _], P, gen | [.or_ _ _], P, gen | [.cmp _ _ _], P, gen | [.chain _ _ _ _ _], P, gen
  | [.ife _ _ _], P, gen | [.ix _ _], P, gen | [.sl _ _ _], P, gen | [.rev _], P, gen | [.call _ _], P, gen | [.callb _ _], P, gen | [.calld _ _ _], P, gen | [.callc _ _ _], P, gen | [.maxd _ _], P, gen | [.bi _ _], P, gen | [.isi _ _], P, gen | [.pop0 _], P, gen | [.pop1 _ _], P, gen | [.lc _ _ _ _ _ _], P, gen | [.none_], P, gen => exact gen rfl rfl
  | a :: _ :: _, P, gen => exact gen (by cases a <;> rfl) (by cases a <;> rfl)
theorem se_bi {f : Bi} {x : Str} {p : Pos} {es : List Expr} {as : List T} (hc : X.calm = true) (hg : Gl X x) (hm : X.mg x = none) (hv : bootBuiltins x = some (fval f)) (hf : fval f ≠ .none) (hf2 : f ≠ .sorted) (ha : PA X (e :: es) (tLook X.K C as)) (hn : x ≠ "__name__") (hd : (x == ("__debug__" : Str)) = false)
    (hs : (e :: es).all noStar = true) : PE X (.Call (.Name x p) (e :: es) [] pos) (tE X.K C (.bi f as)) := by
  obtain ⟨r, h1, h2⟩ := bi_ok X hc f hf hf2
  rw [List.all_cons, Bool.and_eq_true] at hs
  have fin : ∀ σ H Q, tE X.K C (.bi f as) σ H Q → tCB r (tLook X.K C as) σ H Q := fun σ H Q ⟨w, R, P⟩ => by
    refine evb_ok R (Post.bind P) fun ds w1 H1 vs R1 S1 P1 i1 => ?_
    exact h2 w1 σ H H1 vs ds Q R1 S1.live i1 P1
  cases f <;> first
    | exact PE.imp (pe_callB h1 hg hm hv ha hn hd (star_ok hs.1) (stars_ok hs.2)) fin
    | exact PE.imp (pe_callTy h1 hg hm hv ha hn hd (star_ok hs.1) (stars_ok hs.2)) fin
    | exact absurd rfl hf
    | exact absurd rfl hf2
end
end Lm
set_option Elab.async false
set_option linter.all false
set_option maxRecDepth 100000
set_option maxHeartbeats 2000000
/-! enumerate of a tuple, of a text; iter of any of list, tuple, text. -/
namespace Lm
open PySem L2 PySem.Spec PyProof.Rows
open PySem.W

set_option maxHeartbeats 1000000 in
theorem meets_enumerate_new1 {v : Value} {o : Obj} {H : Heap → Prop} (B : Begins v o H) :
    Meets (Builtin.«enumerate.__new__» ⟨[.type "enumerate", v], []⟩) (fun _ R s => H s.heap ∧
      R (.ok (.ret (.ref (s.heap.push o).objs.size))) { s with heap := (s.heap.push o).push { cls := .type "enumerate", data := .fields #[.none, .bool false, .ref s.heap.objs.size, rawInt 0, .none, .none] } }) :=
  .of_wp fun prog w A R s h => by
    obtain ⟨hp, g, d, tk, os⟩ := s; obtain ⟨h1, h⟩ := h
    have hsub := sub_enumerate
    have q1 : ∀ {A' : Around} {E : Value → Shared → Prop} {Q : Value → Shared → Prop}, Q (.ref hp.objs.size) ⟨hp.push o, g, d, tk, os⟩ → wpAny (model prog w) A' (pyIter v) Q E ⟨hp, g, d, tk, os⟩ :=
      fun q => B.iter prog w _ _ ⟨hp, g, d, tk, os⟩ _ h1 q
    wp_walk using q1
    refine wpAny_stack_any fun st => wpAny_pure ?_
    split
    · rename_i c _ _ _ _ _
      cases (c == Value.type "enumerate")
      · wp_walk using q1
        exact ⟨_, rfl, h⟩
      · wp_walk using q1
        exact ⟨_, rfl, h⟩
    · wp_walk using q1
      exact ⟨_, rfl, h⟩
section
variable {prog : Program} {w : World} {A : Around} {E : Value → Shared → Prop} {s : Shared}
theorem enum_begins1 {v : Value} {o : Obj} {H : Heap → Prop} {Q : Value → Shared → Prop} (B : Begins v o H) (h1 : H s.heap)
    (h : ∀ h', IsEnum h' (s.heap.objs.size + 1) s.heap.objs.size 0 .none → h'.get? s.heap.objs.size = some o → h'.objs.size = s.heap.objs.size + 2 →
      (∀ b o, s.heap.get? b = some o → h'.get? b = some o) → Q (.ref (s.heap.objs.size + 1)) { s with heap := h' }) :
    wpAny (model prog w) A (call (.type "enumerate") [v]) Q E s := by
  refine callType_new F.called_enumerate (by decide) (F.typeCall_enumerate_1 _) (F.newCall_enumerate_1 _) (fun obj => F.args_object_init_2 obj _) F.entry_enumerate_new
    (meets_enumerate_new1 B) ⟨h1, ?_⟩
  have hz : (s.heap.push o).objs.size = s.heap.objs.size + 1 := Heap.size_push ..
  show _ ∧ _
  rw [hz]
  have he : IsEnum ((s.heap.push o).push { cls := .type "enumerate", data := .fields #[.none, .bool false, .ref s.heap.objs.size, rawInt 0, .none, .none] }) (s.heap.objs.size + 1) s.heap.objs.size 0 .none := by
    have := Heap.get?_push_size (s.heap.push o) (o := { cls := .type "enumerate", data := .fields #[.none, .bool false, .ref s.heap.objs.size, rawInt 0, .none, .none] }) rfl
    rw [hz] at this; exact this
  refine ⟨⟨_, he, rfl⟩, h _ he (Heap.get?_push_of_some _ (Heap.get?_push_size _ B.free)) (by rw [Heap.size_push, hz]) fun b o x => Heap.get?_push_of_some _ (Heap.get?_push_of_some _ x)⟩
end

/-- the tuple at a, each item in a new pair -/
def IteT (K : PySem.W.Frag) (a : Addr) (xs : List V) : It :=
  ⟨fun i H => SqT K H a xs ∧ i < xs.length, fun i H v H' => ∃ T x, v = .ref T ∧ H T = none ∧ H' = upd H T (.tup [.int (i : Nat), x]) ∧ xs[i]? = some x, fun i H => SqT K H a xs ∧ xs.length = i⟩
/-- a text, each sign in a new pair -/
def IteS (z : Str) : It :=
  ⟨fun i _ => i < z.cps.size, fun i H v H' => ∃ T c, v = .ref T ∧ H T = none ∧ H' = upd H T (.tup [.int (i : Nat), .str ⟨#[c]⟩]) ∧ z.cps[i]? = some c, fun i _ => z.cps.size = i⟩
theorem turn_enumT {P : Program} {w : World} {K : PySem.W.Frag} {elts : List Expr} {kk : Nat} {tpos : Pos} {xs : List V} (a e it : Addr) :
    Turn P w K (.Tuple elts kk tpos) (IteT K a xs) [e, it] e (fun i h => (∃ old, IsEnum h e it ((i : Nat) : Int) old) ∧ h.IsTupleIter it a i ∧ e ≠ it ∧ a ≠ it ∧ e ≠ a) where
  mem := by simp
  obj := fun i h st b hb => by
    obtain ⟨⟨old, he⟩, ⟨o, ho, hc, hd⟩, _⟩ := st
    have e' : b = e ∨ b = it := by simpa using hb
    rcases e' with z | z
    · rw [z]; exact ⟨_, he, fun v q => nomatch q⟩
    · rw [z]; exact ⟨o, ho, fun v q => by rw [hd] at q; cases q⟩
  keep := fun i h h' st k => let ⟨⟨old, he⟩, hi, hne⟩ := st; ⟨⟨old, k e (by simp) _ he⟩, hi.at fun o q => k it (by simp) o q, hne⟩
  item := by
    intro X hP hw hK hc i pins s σ H E I hf st hg
    subst hP hw hK
    obtain ⟨⟨old, he⟩, hit, hne, hna, hea⟩ := st
    obtain ⟨hq, hx⟩ := hg
    obtain ⟨its, rv, p, hz⟩ := I.tuple hq
    have hel : e < s.heap.objs.size := Heap.lt_size he
    have hil : it < s.heap.objs.size := by obtain ⟨_, q, _⟩ := hit; exact Heap.lt_size q
    have hh : X.A.in1.handled = none := I.ok.hd hc
    have D := Draws.tuple (prog := X.prog) (w := X.w) hh it a hna its.toArray
    have hlt : i < its.toArray.size := by have := rv.length; simp; omega
    refine wpAny_pyNext_enum_itemD D he ⟨hit, show s.heap.IsTuple a its.toArray from p⟩ hlt hne (by simp [hne, hea]) fun u h' tk hu ho hit' hT hsz hk => ?_
    refine ⟨_, rfl, wpAny_letOwnedTupleGo_enum (s := { s with heap := h', toks := tk + 1 }) ho fun h'' he' sb => ?_⟩
    have hT2 : h''.get? s.heap.objs.size = some { cls := .type "tuple", data := .seq #[.int i tk, u] } := (sb.2 _ (Nat.ne_of_gt hel)).trans hT
    obtain ⟨x, hxi⟩ : ∃ x, xs[i]? = some x := ⟨_, List.getElem?_eq_getElem hx⟩
    obtain ⟨u', hu', ru⟩ := rv.get hxi
    have hu2 : its[i]? = some u := by simpa using hu
    rw [hu2] at hu'; cases hu'
    have new : ObjOk X.prog X.w (upd H s.heap.objs.size (.tup [.int (i : Nat), x])) h'' s.heap.objs.size (.tup [.int (i : Nat), x]) :=
      ⟨by show 2 ≤ sizeLine; decide, [.int i tk, u], .cons ⟨_, rfl⟩ (.cons ru .nil), ⟨_, hT2, rfl, _, rfl⟩⟩
    have I1 : Inv X pins σ (upd H s.heap.objs.size (.tup [.int (i : Nat), x])) { s with heap := h'', toks := tk + 1 } :=
      I.turnedNew (ch := [e, it]) (fun b ob hb q => (sb.2 b (fun z => hb (by simp [z]))).trans (hk b ob (fun z => hb (by simp [z])) (fun z => hb (by simp [z])) q)) hf (Nat.le_refl _) new
    refine ⟨.ref s.heap.objs.size, _, I1, rfl, ⟨_, x, rfl, I.hok.fresh (Nat.le_refl _), rfl, hxi⟩, ⟨⟨u, ?_⟩, hit'.1.at fun o q => (sb.2 it (Ne.symm hne)).trans q, hne, hna, hea⟩, fun b hb => ?_⟩
    · have e1 : ((i + 1 : Nat) : Int) = (i : Int) + 1 := by omega
      rw [e1]; exact he'
    · have hb' : b < s.heap.objs.size := by
        have e' : b = e ∨ b = it := by simpa using hb
        rcases e' with z | z
        · rw [z]; exact hel
        · rw [z]; exact hil
      rw [upd_ne (Nat.ne_of_lt hb')]
      exact (hf b hb).1
  done := by
    intro X hP hw hK hc i pins s σ H E I hf st hg
    subst hP hw hK
    obtain ⟨⟨old, he⟩, hit, hne, hna, hea⟩ := st
    obtain ⟨hq, hx⟩ := hg
    obtain ⟨its, rv, p, hz⟩ := I.tuple hq
    obtain ⟨f0, f1, f2, f3, f4, f5⟩ := hf it (by simp)
    have hl := rv.length
    have hh : X.A.in1.handled = none := I.ok.hd hc
    have D := Draws.tuple (prog := X.prog) (w := X.w) hh it a hna its.toArray
    have hi : its.toArray.size = i := by simp; omega
    exact wpAny_pyNext_enum_endD D he ⟨by rw [hi]; exact hit, show s.heap.IsTuple a its.toArray from p⟩ fun h' eb => ⟨rfl, I.turned (t' := s.toks) (fun b o hb q => eb b o hb q) f0 f1 f3 f4 f5⟩
  self := fun A i s Q E st h => let ⟨⟨_, he⟩, _⟩ := st; wpAny_pyIter_enum he h
theorem turn_enumS {P : Program} {w : World} {K : PySem.W.Frag} {elts : List Expr} {kk : Nat} {tpos : Pos} (z : Str) (t : Tok) (e it : Addr) :
    Turn P w K (.Tuple elts kk tpos) (IteS z) [e, it] e (fun i h => (∃ old, IsEnum h e it ((i : Nat) : Int) old) ∧ h.IsStrIter it (strIterType z) z t i ∧ e ≠ it) where
  mem := by simp
  obj := fun i h st b hb => by
    obtain ⟨⟨old, he⟩, ⟨o, ho, hc, hd⟩, _⟩ := st
    have e' : b = e ∨ b = it := by simpa using hb
    rcases e' with q | q
    · rw [q]; exact ⟨_, he, fun v q => nomatch q⟩
    · rw [q]; exact ⟨o, ho, fun v q => by rw [hd] at q; cases q⟩
  keep := fun i h h' st k => let ⟨⟨old, he⟩, ⟨o, h1, h2⟩, hne⟩ := st; ⟨⟨old, k e (by simp) _ he⟩, ⟨o, k it (by simp) o h1, h2⟩, hne⟩
  item := by
    intro X hP hw hK hc i pins s σ H E I hf st hg
    subst hP hw hK
    obtain ⟨⟨old, he⟩, hit, hne⟩ := st
    have hel : e < s.heap.objs.size := Heap.lt_size he
    have hil : it < s.heap.objs.size := by obtain ⟨_, q, _⟩ := hit; exact Heap.lt_size q
    have hh : X.A.in1.handled = none := I.ok.hd hc
    have D := Draws.text (prog := X.prog) (w := X.w) hh it z t
    refine wpAny_pyNext_enum_itemD D he hit hg hne (by simp [hne]) fun u h' tk hu ho hit' hT hsz hk => ?_
    refine ⟨_, rfl, wpAny_letOwnedTupleGo_enum (s := { s with heap := h', toks := tk + 1 }) ho fun h'' he' sb => ?_⟩
    have hT2 : h''.get? s.heap.objs.size = some { cls := .type "tuple", data := .seq #[.int i tk, u] } := (sb.2 _ (Nat.ne_of_gt hel)).trans hT
    obtain ⟨c, tc, hci, rfl⟩ := hu
    have new : ObjOk X.prog X.w (upd H s.heap.objs.size (.tup [.int (i : Nat), .str ⟨#[c]⟩])) h'' s.heap.objs.size (.tup [.int (i : Nat), .str ⟨#[c]⟩]) :=
      ⟨by show 2 ≤ sizeLine; decide, [.int i tk, .str ⟨#[c]⟩ tc], .cons ⟨_, rfl⟩ (.cons ⟨_, rfl⟩ .nil), ⟨_, hT2, rfl, _, rfl⟩⟩
    have I1 : Inv X pins σ (upd H s.heap.objs.size (.tup [.int (i : Nat), .str ⟨#[c]⟩])) { s with heap := h'', toks := tk + 1 } :=
      I.turnedNew (ch := [e, it]) (fun b ob hb q => (sb.2 b (fun z => hb (by simp [z]))).trans (hk b ob (fun z => hb (by simp [z])) (fun z => hb (by simp [z])) q)) hf (Nat.le_refl _) new
    refine ⟨.ref s.heap.objs.size, _, I1, rfl, ⟨_, c, rfl, I.hok.fresh (Nat.le_refl _), rfl, hci⟩, ⟨⟨.str ⟨#[c]⟩ tc, ?_⟩, (let ⟨o, h1, h2⟩ := hit'; ⟨o, (sb.2 it (Ne.symm hne)).trans h1, h2⟩), hne⟩, fun b hb => ?_⟩
    · have e1 : ((i + 1 : Nat) : Int) = (i : Int) + 1 := by omega
      rw [e1]; exact he'
    · have hb' : b < s.heap.objs.size := by
        have e' : b = e ∨ b = it := by simpa using hb
        rcases e' with q | q
        · rw [q]; exact hel
        · rw [q]; exact hil
      rw [upd_ne (Nat.ne_of_lt hb')]
      exact (hf b hb).1
  done := by
    intro X hP hw hK hc i pins s σ H E I hf st hg
    subst hP hw hK
    obtain ⟨⟨old, he⟩, hit, hne⟩ := st
    obtain ⟨f0, f1, f2, f3, f4, f5⟩ := hf it (by simp)
    have hh : X.A.in1.handled = none := I.ok.hd hc
    have D := Draws.text (prog := X.prog) (w := X.w) hh it z t
    have hi : z.cps.size = i := hg
    exact wpAny_pyNext_enum_endD D he (by rw [hi]; exact hit) fun h' eb => ⟨rfl, I.turned (t' := s.toks) (fun b o hb q => eb b o hb q) f0 f1 f3 f4 f5⟩
  self := fun A i s Q E st h => let ⟨⟨_, he⟩, _⟩ := st; wpAny_pyIter_enum he h

/-- enumerate(x), x a list, a tuple, a text -/
def iEnumA (K : PySem.W.Frag) (ta : TA) : TI := fun σ H R => ta σ H fun vs H1 => ∃ x, vs = [x] ∧
  ((∃ a xs, x = .ref a ∧ SqL K H1 a xs ∧ R (Ite K a) H1) ∨ (∃ a xs, x = .ref a ∧ SqT K H1 a xs ∧ R (IteT K a xs) H1) ∨ ∃ z, x = .str z ∧ R (IteS z) H1)
theorem pi_enumA {X : Cx} {e : Expr} {ta : TA} {p pos tpos : Pos} {elts : List Expr} {kk : Nat} (hg : Gl X "enumerate") (hm : X.mg "enumerate" = none) (ha : PA X [e] ta) (hs : starEach [e] X.env = [(false, eval e X.env)]) :
    PI X (.Tuple elts kk tpos) (.Call (.Name "enumerate" p) [e] [] pos) (iEnumA X.K ta) := by
  refine ⟨fun pins s σ H R I h => ?_⟩
  refine Call_ (ld_blt I hg hm boot_enumerate (PyProof.Rows.callWith_type1 (thn (ha.run pos pins s σ H _ I h) fun us s1 ⟨vs, H1, I1, r1, q1⟩ => ?_) hs rfl))
  obtain ⟨x, ex, q⟩ := q1
  subst ex
  have fin : ∀ {h' : Heap}, (∀ b o, s1.heap.get? b = some o → h'.get? b = some o) → ∀ b ∈ [s1.heap.objs.size + 1, s1.heap.objs.size], FpOk X pins H1 b := fun {h'} hk b hb => by
    have e' : b = s1.heap.objs.size + 1 ∨ b = s1.heap.objs.size := by simpa using hb
    have hle : s1.heap.objs.size ≤ b := by
      rcases e' with z | z
      · rw [z]; exact Nat.le_add_right _ _
      · rw [z]; exact Nat.le_refl _
    exact I1.fpOk hle (I1.hok.fresh hle)
  cases r1 with
  | cons r rr =>
    cases rr
    rcases q with ⟨a, xs, rfl, hq, q⟩ | ⟨a, xs, rfl, hq, q⟩ | ⟨z, rfl, q⟩
    · cases r
      obtain ⟨its, rv, p', hz⟩ := I1.list hq
      refine call_enumerate_list p'.isList fun h' he hit hsz hk => wpAny_pyIter_enum he ?_
      have I2 : Inv X pins σ H1 { s1 with heap := h' } := I1.kept (t' := s1.toks) hk
      exact ⟨s1.heap.objs.size + 1, [s1.heap.objs.size + 1, s1.heap.objs.size], _, _, H1, rfl, I2, turn_enum a (s1.heap.objs.size + 1) s1.heap.objs.size, ⟨⟨.none, he⟩, hit, Nat.succ_ne_self _⟩, fin hk, q⟩
    · cases r
      obtain ⟨its, rv, p', hz⟩ := I1.tuple hq
      have lt : a < s1.heap.objs.size := p'.lt
      refine enum_begins1 (begins_tuple a its.toArray) (show s1.heap.IsTuple a its.toArray from p') fun h' he ho hsz hk => wpAny_pyIter_enum he ?_
      have I2 : Inv X pins σ H1 { s1 with heap := h' } := I1.kept (t' := s1.toks) hk
      exact ⟨s1.heap.objs.size + 1, [s1.heap.objs.size + 1, s1.heap.objs.size], _, _, H1, rfl, I2, turn_enumT a (s1.heap.objs.size + 1) s1.heap.objs.size, ⟨⟨.none, he⟩, ⟨_, ho, rfl, rfl⟩, Nat.succ_ne_self _, Nat.ne_of_lt lt, fun z => absurd lt (by rw [← z]; exact Nat.not_lt_of_le (Nat.le_succ _))⟩, fin hk, q⟩
    · obtain ⟨t, rfl⟩ := r
      refine enum_begins1 (begins_text z t) trivial fun h' he ho hsz hk => wpAny_pyIter_enum he ?_
      have I2 : Inv X pins σ H1 { s1 with heap := h' } := I1.kept (t' := s1.toks) hk
      exact ⟨s1.heap.objs.size + 1, [s1.heap.objs.size + 1, s1.heap.objs.size], _, _, H1, rfl, I2, turn_enumS z t (s1.heap.objs.size + 1) s1.heap.objs.size, ⟨⟨.none, he⟩, ⟨_, ho, rfl, rfl⟩, Nat.succ_ne_self _⟩, fin hk, q⟩
/-- x itself, a list, a tuple, a text -/
def iAny (K : PySem.W.Frag) (tl : TE) : TI := fun σ H R => tl σ H fun x H1 =>
  ((∃ a xs, x = .ref a ∧ SqL K H1 a xs ∧ R (Itl K a) H1) ∨ (∃ a xs, x = .ref a ∧ SqT K H1 a xs ∧ R (Itt K a) H1) ∨ ∃ z, x = .str z ∧ R (Its z) H1)
theorem pi_any {X : Cx} {tg l : Expr} {tl : TE} (hl : PE X l tl) : PI X tg l (iAny X.K tl) := by
  refine ⟨fun pins s σ H R I h => ?_⟩
  refine thn (hl.run pins s σ H _ I h) fun v s1 ⟨x, H1, I1, r1, q1⟩ => ?_
  rcases q1 with ⟨a, xs, rfl, hq, q⟩ | ⟨a, xs, rfl, hq, q⟩ | ⟨z, rfl, q⟩
  · cases r1
    obtain ⟨its, rv, p, hz⟩ := I1.list hq
    refine wpAny_pyIter_list p.isList ?_
    refine ⟨s1.heap.objs.size, [s1.heap.objs.size], _, _, H1, rfl, I1.kept (t' := s1.toks) fun b o e => Heap.get?_push_of_some _ e, turn_list a _, ⟨_, Heap.get?_push_size _ rfl, rfl, rfl⟩, fun b hb => ?_, q⟩
    have e : b = s1.heap.objs.size := by simpa using hb
    subst e
    exact I1.fpOk (Nat.le_refl _) (I1.hok.fresh (Nat.le_refl _))
  · cases r1
    obtain ⟨its, rv, p, hz⟩ := I1.tuple hq
    refine wpAny_pyIter_tuple (show s1.heap.IsTuple a its.toArray from p) ?_
    refine ⟨s1.heap.objs.size, [s1.heap.objs.size], _, _, H1, rfl, I1.kept (t' := s1.toks) fun b o e => Heap.get?_push_of_some _ e, turn_tuple a _, ⟨_, Heap.get?_push_size _ rfl, rfl, rfl⟩, fun b hb => ?_, q⟩
    have e : b = s1.heap.objs.size := by simpa using hb
    subst e
    exact I1.fpOk (Nat.le_refl _) (I1.hok.fresh (Nat.le_refl _))
  · obtain ⟨t, rfl⟩ := r1
    cases ha : z.cps.all (· < 128)
    · exact wpAny_pyIter_wide ha (pi_one (tk := s1.toks) I1 _ (turn_str _ z t "str_iterator" (.inr rfl)) ⟨_, Heap.get?_push_size _ rfl, rfl, rfl⟩ q)
    · exact wpAny_pyIter_ascii ha (pi_one (tk := s1.toks) I1 _ (turn_str _ z t "str_ascii_iterator" (.inl rfl)) ⟨_, Heap.get?_push_size _ rfl, rfl, rfl⟩ q)
end Lm
set_option Elab.async false
set_option linter.all false
set_option maxRecDepth 100000
set_option maxHeartbeats 2000000
/-! The interpreter is sound, 7: calls, lists changed in place, what is walked. -/
namespace Lm
open PySem L2

theorem bind_ok_inv' {α β : Type} {m : R α} {f : α → S → R β} {b : β} {s' : S} (h : m.bind f = .ok b s') : ∃ a s, m = .ok a s ∧ f a s = .ok b s' := by
  cases m with
  | ok a s => exact ⟨a, s, rfl, h⟩
  | exc _ _ _ => cases h
  | bad => cases h
theorem post_ok' {α : Type} {K : PySem.W.Frag} {w : W} {σ : L2.St} {H : Hp} {m : R α} {a : α} {s' : S} {N : α → W → Hp → Prop} (e : m = .ok a s') (h : ∀ w' H', w'.s = s' → Rep K w' σ H' → Step w H w' H' → N a w' H') : Post K w σ H m N := by
  rw [e]; exact h
/-! ### calls -/
/-- what a def promises -/
def spD (K : PySem.W.Frag) (C : Ctx) (n : Nat) (f : Str) : Sp := fun vs H Q E => vs.length = n ∧ ∃ (F : Hp) (μ : List Addr) (g : List Cell) (ds : List D), Rep K ⟨F, μ, fun _ => 0, ⟨[], g⟩⟩ [] H ∧ IsAll K F μ vs ds ∧
  Post K ⟨F, μ, fun _ => 0, ⟨[], g⟩⟩ [] H (C.call f ds g) fun p w' H' => ∀ v, w'.val K H H' v p → Q v H'
section
variable {K : PySem.W.Frag} {w w' : W} {σ : L2.St} {H H' : Hp}
theorem no_ow {F : Hp} {μ : List Addr} {β : Nat → Addr} {g : List Cell} {i : Nat} : ¬ W.ow ⟨F, μ, β, ⟨[], g⟩⟩ i := fun ⟨d, e⟩ => by simp at e
theorem O_bare {F : Hp} {μ : List Addr} {β : Nat → Addr} {g : List Cell} {a : Addr} : W.O ⟨F, μ, β, ⟨[], g⟩⟩ a ↔ a ∈ μ := ⟨fun h => h.elim id fun ⟨i, h, _⟩ => (no_ow h).elim, .inl⟩
theorem Rep.bare (R : Rep K w σ H) : Rep K ⟨w.F, w.μ, fun _ => 0, ⟨[], w.s.g⟩⟩ [] H where
  ex := R.ex
  len := rfl
  slot := fun i d e => by simp at e
  own := fun i d e => by simp at e
  cell := R.cell
  clen := R.clen
  fr := fun a h => R.fr a (.inl (O_bare.mp h))
  nd := R.nd
  dis := fun i j h => (no_ow h).elim
  dic := fun i h => (no_ow h).elim
theorem Rep.ret (R : Rep K w σ H) (R' : Rep K w' [] H') (S : Step ⟨w.F, w.μ, fun _ => 0, ⟨[], w.s.g⟩⟩ H w' H') :
    Rep K ⟨w'.F, w'.μ, w.β, ⟨w.s.r, w'.s.g⟩⟩ σ H' ∧ Step w H ⟨w'.F, w'.μ, w.β, ⟨w.s.r, w'.s.g⟩⟩ H' ∧ ∀ v p, w'.val K H H' v p → W.val K ⟨w'.F, w'.μ, w.β, ⟨w.s.r, w'.s.g⟩⟩ H H' v p := by
  have r0 : w'.s.r = [] := List.eq_nil_of_length_eq_zero R'.len
  have O' : ∀ a, w'.O a ↔ a ∈ w'.μ := fun a => ⟨fun h => h.elim id fun ⟨i, ⟨d, e⟩, _⟩ => by rw [r0] at e; simp at e, .inl⟩
  have keep : ∀ i, w.ow i → H' (w.β i) = H (w.β i) ∧ w'.F (w.β i) = none ∧ w.β i ∉ w'.μ := fun i h => by
    obtain ⟨o, e⟩ := R.live (.inr ⟨i, h, rfl⟩)
    have no : ¬ W.O ⟨w.F, w.μ, fun _ => 0, ⟨[], w.s.g⟩⟩ (w.β i) := fun z => R.dic i h (O_bare.mp z)
    refine ⟨(S.keep _ o e no).trans e.symm, ?_, fun z => ?_⟩
    · cases q : w'.F (w.β i) with
      | none => rfl
      | some u =>
        rcases S.newF _ u q with z | z | z
        · have := R.fr _ (.inr ⟨i, h, rfl⟩)
          rw [show w.F (w.β i) = some u from z] at this; cases this
        · exact (no z).elim
        · rw [e] at z; cases z
    · rcases S.newO _ ((O' _).mpr z) with q | q
      · exact no q
      · rw [e] at q; cases q
  have ow2 : ∀ i, W.ow ⟨w'.F, w'.μ, w.β, ⟨w.s.r, w'.s.g⟩⟩ i ↔ w.ow i := fun i => Iff.rfl
  refine ⟨⟨R'.ex, R.len, fun i d e => ?_, fun i d e => ?_, R'.cell, R'.clen, fun a h => ?_, R'.nd, R.dis, fun i h => (keep i h).2.2⟩, ⟨fun a o e n => ?_, S.sub, fun a o e => ?_, fun a h => ?_, S.pre, S.live⟩, fun v p h => ?_⟩
  · obtain ⟨v, h1, h2⟩ := R.slot i d e
    exact ⟨v, h1, h2.mono S.sub S.pre⟩
  · obtain ⟨vs, ds, h0, h1, h2, h3⟩ := R.own i d e
    exact ⟨vs, ds, h0, h1, (keep i ⟨d, e⟩).1.trans h2, h3.mono S.sub S.pre⟩
  · rcases h with h | ⟨i, h, rfl⟩
    · exact R'.fr a (.inl h)
    · exact (keep i h).2.1
  · exact S.keep a o e fun z => n (.inl (O_bare.mp z))
  · rcases S.newF a o e with z | z | z
    · exact .inl z
    · exact .inr (.inl (.inl (O_bare.mp z)))
    · exact .inr (.inr z)
  · rcases h with h | ⟨i, h, q⟩
    · rcases S.newO a (.inl h) with z | z
      · exact .inl (.inl (O_bare.mp z))
      · exact .inr z
    · exact .inl (.inr ⟨i, h, q⟩)
  · obtain ⟨d, o⟩ := p
    cases o with
    | false => exact h
    | true =>
      obtain ⟨a, vs, ds, q1, q2, q3, q4, q5, q6, q7⟩ := h
      refine ⟨a, vs, ds, q1, q2, q3, fun z => ?_, q5, q6, q7⟩
      rcases z with z | ⟨i, z, rfl⟩
      · exact q4 (.inl z)
      · obtain ⟨o, e⟩ := R.live (.inr ⟨i, z, rfl⟩)
        rw [e] at q5; cases q5
end
section
variable {X : Cx} {C : Ctx} {e : Expr} {es : List Expr} {as : List T} {x : Str} {p pos : Pos} {k n : Nat} {fa : Addr} {fd : FuncData} {ps : List Str} {ds0 : List D} {dvs : List V} {dus : List Value}
/-- a call's reading: dvs the defaults that fill up -/
theorem call_read {σ : L2.St} {H : Hp} {Q : VK} (w : W) (R : Rep X.K w σ H) (hd : ∀ F μ, IsAll X.K F μ dvs ds0) (hn : ∀ (vs : List V) (ds : List D) F μ, IsAll X.K F μ vs ds → True)
    (P : Post X.K w σ H ((evs C as w.s).bind fun ds s1 => match C.call x (ds ++ ds0) s1.g with
      | .ok p s2 => .ok p { s1 with g := s2.g }
      | .exc c d s2 => .exc c d { s1 with g := s2.g }
      | .bad => .bad) fun p w' H' => ∀ v, w'.val X.K H H' v p → Q v H') (hl : ∀ ds, (∃ s1, evs C as w.s = .ok ds s1) → ds.length + ds0.length = n) : tCall (spD X.K C n x) dvs E0 (tAs X.K C as) σ H Q := by
  have P1 := Post.bind P
  have hl' : ∀ (N : List D → W → Hp → Prop), Post X.K w σ H (evs C as w.s) N → Post X.K w σ H (evs C as w.s) fun ds w' H' => N ds w' H' ∧ ds.length + ds0.length = n := fun N => by
    cases q : evs C as w.s with
    | ok ds s1 => exact fun h w' H' e R S => ⟨h w' H' e R S, hl ds ⟨s1, q⟩⟩
    | exc _ _ _ => exact fun h => h.elim
    | bad => exact fun h => h.elim
  refine tAs_of R (hl' _ P1) fun ds w1 H1 vs R1 S1 P2 i1 => ?_
  obtain ⟨P2, hlen⟩ := P2
  have ia := i1.append (hd w1.F w1.μ)
  refine ⟨by rw [ia.length, List.length_append]; exact hlen, w1.F, w1.μ, w1.s.g, ds ++ ds0, R1.bare, ia, ?_⟩
  revert P2
  cases q : C.call x (ds ++ ds0) w1.s.g with
  | bad => exact fun h => h.elim
  | exc _ _ _ => exact fun h => h.elim
  | ok p s2 =>
    intro h w' H' e R' S' v hv
    have r0 : w'.s.r = [] := List.eq_nil_of_length_eq_zero R'.len
    obtain ⟨a1, a2, a3⟩ := R1.ret R' S'
    exact h _ H' (by rw [e]) a1 a2 v (val_start S1.live (a3 v p hv))
theorem se_call (F : FnOk X.prog X.w X.K X.mg X.base CX0 k fa fd ps (spD X.K C n x)) (hr : Room k X.A) (hg : Gl X x) (hm : X.mg x = some (.ref fa)) (hk : PySem.W.keepIn X.K (.ref fa) = true) (hb : Binds X.K fd ps dus) (hv : Vals dvs dus) (hd : ∀ F μ, IsAll X.K F μ dvs ds0)
    (ha : PA X (e :: es) (tAs X.K C as)) (hdb : (x == ("__debug__" : Str)) = false) (hs : (e :: es).all noStar = true) (hc : ∀ ds g p s, C.call x ds g = .ok p s → ds.length = n) :
    PE X (.Call (.Name x p) (e :: es) [] pos) (tE X.K C (.call x (as ++ ds0.map .c))) := by
  rw [List.all_cons, Bool.and_eq_true] at hs
  refine PE.imp (pe_call F hr hg hm hk hb hv pass0 ha hdb (star_ok hs.1) (stars_ok hs.2)) fun σ H Q ⟨w, R, P⟩ => ?_
  have app : ∀ (as : List T) (s : S), evs C (as ++ ds0.map .c) s = (evs C as s).bind fun ds s1 => .ok (ds ++ ds0) s1 := by
    have cs : ∀ (l : List D) (s : S), evs C (l.map .c) s = .ok l s := by
      intro l
      induction l with
      | nil => intro s; rfl
      | cons d l ih => intro s; show ((Lm.R.ok (d, false) s).bind fun x s1 => (evs C (l.map .c) s1).bind fun xs s2 => .ok (x.1 :: xs) s2) = _; rw [Lm.R.bind_ok, ih]; rfl
    intro as
    induction as with
    | nil => intro s; rw [List.nil_append, cs]; rfl
    | cons a as ih =>
      intro s
      show ((ev C a s).bind fun x s1 => (evs C (as ++ ds0.map .c) s1).bind fun xs s2 => .ok (x.1 :: xs) s2) = ((ev C a s).bind fun x s1 => (evs C as s1).bind fun xs s2 => .ok (x.1 :: xs) s2).bind _
      rw [Lm.R.bind_assoc]
      congr 1
      funext x s1
      rw [ih, Lm.R.bind_assoc, Lm.R.bind_assoc]
      rfl
  have P : Post X.K w σ H ((evs C (as ++ ds0.map .c) w.s).bind fun ds s1 => match C.call x ds s1.g with
      | .ok p s2 => .ok p { s1 with g := s2.g }
      | .exc c d s2 => .exc c d { s1 with g := s2.g }
      | .bad => .bad) _ := P
  rw [app, Lm.R.bind_assoc] at P
  refine call_read w R hd (fun _ _ _ _ _ => trivial) P fun ds ⟨s1, q⟩ => ?_
  rw [q] at P
  cases q2 : C.call x (ds ++ ds0) s1.g with
  | ok p s2 => rw [← List.length_append]; exact hc _ _ _ _ q2
  | exc _ _ _ => simp only [Lm.R.bind_ok, q2] at P; exact P.elim
  | bad => simp only [Lm.R.bind_ok, q2] at P; exact P.elim
end
/-! ### lists that are lent to a call -/
theorem flat_is {K : PySem.W.Frag} {F F' : Hp} {μ μ' : List Addr} {v : V} {d : D} (h : Is K F μ v d) (f : flat d = true) : Is K F' μ' v d := by
  cases h with
  | non => exact .non
  | bl _ => exact .bl _
  | int _ => exact .int _
  | str _ => exact .str _
  | _ => simp [flat] at f
theorem flat_isAll {K : PySem.W.Frag} {F F' : Hp} {μ μ' : List Addr} : ∀ {vs : List V} {ds : List D}, IsAll K F μ vs ds → ds.all flat = true → IsAll K F' μ' vs ds
  | _, _, .nil, _ => .nil
  | _, _, .cons h r, f => by
    rw [List.all_cons, Bool.and_eq_true] at f
    exact .cons (flat_is h f.1) (flat_isAll r f.2)
/-- what stands still while these slots are lent -/
noncomputable def lendF (w : W) (H : Hp) (is : List Nat) : Hp := fun a => open Classical in match w.F a with
  | some o => some o
  | none => if ∃ i ∈ is, w.ow i ∧ w.β i = a then H a else none
theorem lendF_some {w : W} {H : Hp} {is : List Nat} {a : Addr} {o : HO} (h : lendF w H is a = some o) : w.F a = some o ∨ (w.F a = none ∧ (∃ i ∈ is, w.ow i ∧ w.β i = a) ∧ H a = some o) := by
  unfold lendF at h
  cases q : w.F a with
  | some u => rw [q] at h; exact .inl h
  | none =>
    rw [q] at h
    by_cases c : ∃ i ∈ is, w.ow i ∧ w.β i = a
    · simp only [if_pos c] at h; exact .inr ⟨rfl, c, h⟩
    · simp only [if_neg c] at h; cases h
theorem lendF_own {w : W} {H : Hp} {is : List Nat} {a : Addr} (h : w.F a = none) (c : ∃ i ∈ is, w.ow i ∧ w.β i = a) : lendF w H is a = H a := by
  unfold lendF
  rw [h]
  exact if_pos c
theorem lend_sub {w : W} {H : Hp} {is : List Nat} : Sub w.F (lendF w H is) := fun a o h => by
  unfold lendF; rw [h]
noncomputable def takeF (w w' : W) (is : List Nat) : Hp := fun a => open Classical in if ∃ i ∈ is, w.ow i ∧ w.β i = a then none else w'.F a
theorem takeF_some {w w' : W} {is : List Nat} {a : Addr} {o : HO} (h : takeF w w' is a = some o) : w'.F a = some o ∧ ¬ ∃ i ∈ is, w.ow i ∧ w.β i = a := by
  unfold takeF at h
  by_cases c : ∃ i ∈ is, w.ow i ∧ w.β i = a
  · rw [if_pos c] at h; cases h
  · rw [if_neg c] at h; exact ⟨h, c⟩
section
variable {K : PySem.W.Frag} {w w' : W} {σ : L2.St} {H H' : Hp}
theorem Rep.lend (R : Rep K w σ H) (is : List Nat) : Rep K ⟨lendF w H is, w.μ, fun _ => 0, ⟨[], w.s.g⟩⟩ [] H where
  ex := fun a o h => by
    rcases lendF_some h with z | ⟨_, _, z⟩
    · exact R.ex a o z
    · exact z
  len := rfl
  slot := fun i d e => by simp at e
  own := fun i d e => by simp at e
  cell := fun k c e => by
    obtain ⟨b, h1, h2⟩ := R.cell k c e
    refine ⟨b, h1, ?_⟩
    revert h2
    cases c with
    | lst ds => exact fun ⟨vs, q, r⟩ => ⟨vs, q, r.mono lend_sub (Pre.refl _)⟩
  clen := R.clen
  fr := fun a h => by
    have ha := O_bare.mp h
    cases q : lendF w H is a with
    | none => exact q
    | some o =>
      rcases lendF_some q with z | ⟨_, ⟨i, _, ow, rfl⟩, _⟩
      · have := R.fr a (.inl ha)
        rw [z] at this; cases this
      · exact (R.dic i ow ha).elim
  nd := R.nd
  dis := fun i j h => (no_ow h).elim
  dic := fun i h => (no_ow h).elim
theorem Rep.unlend (R : Rep K w σ H) (is : List Nat) (R' : Rep K w' [] H') (S : Step ⟨lendF w H is, w.μ, fun _ => 0, ⟨[], w.s.g⟩⟩ H w' H') (hg : flatG w'.s.g = true) :
    Rep K ⟨takeF w w' is, w'.μ, w.β, ⟨w.s.r, w'.s.g⟩⟩ σ H' ∧ Step w H ⟨takeF w w' is, w'.μ, w.β, ⟨w.s.r, w'.s.g⟩⟩ H' := by
  have r0 : w'.s.r = [] := List.eq_nil_of_length_eq_zero R'.len
  have O' : ∀ a, w'.O a ↔ a ∈ w'.μ := fun a => ⟨fun h => h.elim id fun ⟨i, ⟨d, e⟩, _⟩ => by rw [r0] at e; simp at e, .inl⟩
  have fO : ∀ a o, w.F a = some o → ¬ ∃ i ∈ is, w.ow i ∧ w.β i = a := fun a o h ⟨i, _, ow, e⟩ => by
    have := R.fr a (.inr ⟨i, ow, e⟩)
    rw [h] at this; cases this
  have subT : Sub w.F (takeF w w' is) := fun a o h => by
    unfold takeF
    rw [if_neg (fO a o h)]
    exact S.sub a o (lend_sub a o h)
  have keep : ∀ i, w.ow i → H' (w.β i) = H (w.β i) ∧ takeF w w' is (w.β i) = none ∧ w.β i ∉ w'.μ := fun i h => by
    obtain ⟨o, e⟩ := R.live (.inr ⟨i, h, rfl⟩)
    have no : ¬ W.O ⟨lendF w H is, w.μ, fun _ => 0, ⟨[], w.s.g⟩⟩ (w.β i) := fun z => R.dic i h (O_bare.mp z)
    refine ⟨(S.keep _ o e no).trans e.symm, ?_, fun z => ?_⟩
    · cases q : takeF w w' is (w.β i) with
      | none => rfl
      | some u =>
        obtain ⟨q1, q2⟩ := takeF_some q
        rcases S.newF _ u q1 with z | z | z
        · rcases lendF_some (show lendF w H is (w.β i) = some u from z) with z | ⟨_, z, _⟩
          · have := R.fr _ (.inr ⟨i, h, rfl⟩)
            rw [z] at this; cases this
          · exact (q2 z).elim
        · exact (no z).elim
        · rw [e] at z; cases z
    · rcases S.newO _ ((O' _).mpr z) with q | q
      · exact no q
      · rw [e] at q; cases q
  refine ⟨⟨fun a o h => R'.ex a o (takeF_some h).1, R.len, fun i d e => ?_, fun i d e => ?_, fun k c e => ?_, R'.clen, fun a h => ?_, R'.nd, R.dis, fun i h => (keep i h).2.2⟩, ⟨fun a o e n => ?_, subT, fun a o e => ?_, fun a h => ?_, S.pre, S.live⟩⟩
  · obtain ⟨v, h1, h2⟩ := R.slot i d e
    exact ⟨v, h1, h2.mono subT S.pre⟩
  · obtain ⟨vs, ds, h0, h1, h2, h3⟩ := R.own i d e
    exact ⟨vs, ds, h0, h1, (keep i ⟨d, e⟩).1.trans h2, h3.mono subT S.pre⟩
  · obtain ⟨b, h1, h2⟩ := R'.cell k c e
    refine ⟨b, h1, ?_⟩
    have hc := List.all_eq_true.mp hg c (List.mem_of_getElem? e)
    revert h2 hc
    cases c with
    | lst ds => exact fun ⟨vs, q, r⟩ hc => ⟨vs, q, flat_isAll r hc⟩
  · rcases h with h | ⟨i, h, rfl⟩
    · cases q : takeF w w' is a with
      | none => exact q
      | some o =>
        have := R'.fr a (.inl h)
        rw [(takeF_some q).1] at this; cases this
    · exact (keep i h).2.1
  · exact S.keep a o e fun z => n (.inl (O_bare.mp z))
  · obtain ⟨e1, e2⟩ := takeF_some e
    rcases S.newF a o e1 with z | z | z
    · rcases lendF_some (show lendF w H is a = some o from z) with z | ⟨_, z, _⟩
      · exact .inl z
      · exact (e2 z).elim
    · exact .inr (.inl (.inl (O_bare.mp z)))
    · exact .inr (.inr z)
  · rcases h with h | ⟨i, h, q⟩
    · rcases S.newO a (.inl h) with z | z
      · exact .inl (.inl (O_bare.mp z))
      · exact .inr z
    · exact .inl (.inr ⟨i, h, q⟩)
end
def lentA : List Nat → TA
  | [] => tNil
  | i :: is => tCons (tVar i) (lentA is)
theorem lent_ok {K : PySem.W.Frag} {w : W} {σ : L2.St} {H : Hp} (R : Rep K w σ H) (all : List Nat) : ∀ (is : List Nat) (ds : List D) (s' : S) (Q : List V → Hp → Prop), (∀ i ∈ is, i ∈ all) → lent is w.s = .ok ds s' → (∀ vs, IsAll K (lendF w H all) w.μ vs ds → Q vs H) → s' = w.s ∧ lentA is σ H Q
  | [], ds, s', Q, _, h, q => by cases h; exact ⟨rfl, q [] .nil⟩
  | i :: is, ds, s', Q, hm, h, q => by
    obtain ⟨d, s1, h1, h2⟩ := bind_ok_inv' (show (Lm.rd i w.s).bind _ = .ok ds s' from h)
    obtain ⟨ds2, s2, h3, h4⟩ := bind_ok_inv' h2
    cases h4
    unfold Lm.rd at h1
    split at h1
    · rename_i p e
      cases h1
      obtain ⟨d, o⟩ := p
      have hv : ∃ v, σ[i]? = some (some v) ∧ Is K (lendF w H all) w.μ v d := by
        cases o with
        | false =>
          obtain ⟨v, a1, a2⟩ := R.slot i d e
          exact ⟨v, a1, a2.mono lend_sub (Pre.refl _)⟩
        | true =>
          obtain ⟨vs, ds, rfl, a1, a2, a3⟩ := R.own i d e
          refine ⟨_, a1, .lst ?_ (a3.mono lend_sub (Pre.refl _))⟩
          have ow : w.ow i := ⟨_, e⟩
          rw [lendF_own (R.fr _ (.inr ⟨i, ow, rfl⟩)) ⟨i, hm i List.mem_cons_self, ow, rfl⟩]
          exact a2
      obtain ⟨v, a1, a2⟩ := hv
      obtain ⟨e1, e2⟩ := lent_ok R all is ds2 s' (fun xs H' => Q (v :: xs) H') (fun j hj => hm j (List.mem_cons_of_mem _ hj)) h3 fun vs hvs => q _ (.cons a2 hvs)
      exact ⟨e1, v, a1, e2⟩
    · cases h1
section
variable {X : Cx} {C : Ctx} {e : Expr} {es : List Expr} {is : List Nat} {x : Str} {p pos : Pos} {k n : Nat} {fa : Addr} {fd : FuncData} {ps : List Str}
theorem se_callb (F : FnOk X.prog X.w X.K X.mg X.base CX0 k fa fd ps (spD X.K C n x)) (hr : Room k X.A) (hg : Gl X x) (hm : X.mg x = some (.ref fa)) (hk : PySem.W.keepIn X.K (.ref fa) = true) (hb : Binds X.K fd ps [])
    (ha : PA X (e :: es) (lentA is)) (hdb : (x == ("__debug__" : Str)) = false) (hs : (e :: es).all noStar = true) (hc : ∀ ds g p s, C.call x ds g = .ok p s → ds.length = n) :
    PE X (.Call (.Name x p) (e :: es) [] pos) (tE X.K C (.callb x is)) := by
  rw [List.all_cons, Bool.and_eq_true] at hs
  refine PE.imp (pe_call F hr hg hm hk hb .nil pass0 ha hdb (star_ok hs.1) (stars_ok hs.2)) fun σ H Q ⟨w, R, P⟩ => ?_
  have P : Post X.K w σ H ((lent is w.s).bind fun ds s1 => match C.call x ds s1.g with
      | .ok p s2 => if flat p.1 && flatG s2.g then .ok (p.1, false) { s1 with g := s2.g } else .bad
      | .exc c d s2 => .exc c d { s1 with g := s2.g }
      | .bad => .bad) _ := P
  cases q : lent is w.s with
  | bad => rw [q] at P; exact P.elim
  | exc _ _ _ => rw [q] at P; exact P.elim
  | ok ds s1 =>
    rw [q] at P
    have P : Post X.K w σ H (match C.call x ds s1.g with
      | .ok p s2 => if flat p.1 && flatG s2.g then .ok (p.1, false) { s1 with g := s2.g } else .bad
      | .exc c d s2 => .exc c d { s1 with g := s2.g }
      | .bad => .bad) (fun p w' H' => ∀ v, w'.val X.K H H' v p → Q v H') := P
    have e1 : s1 = w.s := (lent_ok R is is ds s1 (fun _ _ => True) (fun _ h => h) q fun _ _ => trivial).1
    subst e1
    refine (lent_ok R is is ds w.s _ (fun _ h => h) q fun vs hvs => ?_).2
    cases q2 : C.call x ds w.s.g with
    | bad => rw [q2] at P; exact P.elim
    | exc _ _ _ => rw [q2] at P; exact P.elim
    | ok p s2 =>
      rw [q2] at P
      by_cases c : (flat p.1 && flatG s2.g) = true
      · simp only [if_pos c] at P
        rw [Bool.and_eq_true] at c
        refine ⟨by rw [List.append_nil, hvs.length]; exact hc _ _ _ _ q2, lendF w H is, w.μ, w.s.g, ds, R.lend is, by rw [List.append_nil]; exact hvs, ?_⟩
        refine post_ok' q2 fun w' H' e2 R' S' v hv => ?_
        obtain ⟨R2, S2⟩ := R.unlend is R' S' (by rw [e2]; exact c.2)
        refine P _ H' (by rw [e2]) R2 S2 v ?_
        obtain ⟨d, o⟩ := p
        cases o with
        | false => exact flat_is (show Is X.K w'.F w'.μ v d from hv) c.1
        | true =>
          obtain ⟨_, _, ds', _, q3, _⟩ := hv
          have q3 : d = .lst ds' := q3
          rw [q3] at c
          simp [flat] at c
      · simp only [if_neg c] at P; exact P.elim
end

/-! ### lists changed in place -/
theorem Rep.getL {K : PySem.W.Frag} {w : W} {σ : L2.St} {H : Hp} {i : Nat} {xs : List D} (R : Rep K w σ H) (h : getL i w.s = some xs) :
    ∃ a vs, σ[i]? = some (some (.ref a)) ∧ H a = some (.lst vs) ∧ IsAll K w.F w.μ vs xs ∧ w.O a ∧ ∀ vs' xs', IsAll K w.F w.μ vs' xs' → ∃ w', w'.s = putL i xs' w.s ∧ w'.F = w.F ∧ w'.μ = w.μ ∧ Rep K w' σ (upd H a (.lst vs')) ∧ Step w H w' (upd H a (.lst vs')) := by
  unfold Lm.getL at h
  split at h
  · rename_i xs0 e
    cases h
    obtain ⟨vs, ds, q, h1, h2, h3⟩ := R.own i _ e
    cases q
    have ow : w.ow i := ⟨_, e⟩
    have hO : w.O (w.β i) := .inr ⟨i, ow, rfl⟩
    have nf := R.fr _ hO
    have hlt := (List.getElem?_eq_some_iff.mp e).1
    refine ⟨w.β i, vs, h1, h2, h3, hO, fun vs' xs' r => ?_⟩
    have es : putL i xs' w.s = wr i (.lst xs', true) w.s := by unfold putL; rw [e]
    have get : ∀ (j : Nat) x, (wr i (.lst xs', true) w.s).r[j]? = some (some x) → (j = i ∧ x = (.lst xs', true)) ∨ (j ≠ i ∧ w.s.r[j]? = some (some x)) := fun j x q => by
      by_cases c : i = j
      · subst c
        have q : (w.s.r.set i (some (.lst xs', true)))[i]? = some (some x) := q
        rw [List.getElem?_set_self hlt] at q
        exact .inl ⟨rfl, (Option.some.inj (Option.some.inj q)).symm⟩
      · have q : (w.s.r.set i (some (.lst xs', true)))[j]? = some (some x) := q
        rw [List.getElem?_set_ne c] at q
        exact .inr ⟨fun z => c z.symm, q⟩
    have ow' : ∀ j, W.ow ⟨w.F, w.μ, w.β, wr i (.lst xs', true) w.s⟩ j → w.ow j := fun j ⟨x, q⟩ => by
      rcases get j _ q with ⟨rfl, _⟩ | ⟨_, q⟩
      · exact ow
      · exact ⟨x, q⟩
    have O' : ∀ a, W.O ⟨w.F, w.μ, w.β, wr i (.lst xs', true) w.s⟩ a → w.O a := fun a h => by
      rcases h with h | ⟨j, h, q⟩
      · exact .inl h
      · exact .inr ⟨j, ow' j h, q⟩
    have neF : ∀ b u, w.F b = some u → b ≠ w.β i := fun b u q z => by rw [z, nf] at q; cases q
    refine ⟨⟨w.F, w.μ, w.β, wr i (.lst xs', true) w.s⟩, es.symm, rfl, rfl, ⟨fun b u q => ?_, ?_, fun j x q => ?_, fun j x q => ?_, fun k c q => ?_, R.clen, fun a h => R.fr a (O' a h), R.nd, fun j k hj hk q => R.dis j k (ow' j hj) (ow' k hk) q, fun j hj => R.dic j (ow' j hj)⟩, ⟨fun b u q n => ?_, Sub.refl _, fun b u q => .inl q, fun b h => .inl (O' b h), Pre.refl _, fun b q => ?_⟩⟩
    · rw [upd_ne (neF b u q)]; exact R.ex b u q
    · show (w.s.r.set _ _).length = _
      rw [List.length_set]; exact R.len
    · rcases get j _ q with ⟨_, q⟩ | ⟨_, q⟩
      · cases q
      · exact R.slot j x q
    · rcases get j _ q with ⟨ej, q⟩ | ⟨c, q⟩
      · cases q
        subst ej
        exact ⟨vs', xs', rfl, h1, upd_same, r⟩
      · obtain ⟨vs1, ds1, a0, a1, a2, a3⟩ := R.own j x q
        exact ⟨vs1, ds1, a0, a1, by rw [upd_ne (fun z => c (R.dis j i ⟨x, q⟩ ow z))]; exact a2, a3⟩
    · obtain ⟨b, h1, h2⟩ := R.cell k c q
      refine ⟨b, h1, ?_⟩
      have hb : b ≠ w.β i := fun z => R.dic i ow (by rw [← z]; exact List.mem_of_getElem? h1)
      revert h2
      cases c with
      | lst ds => exact fun ⟨vs, q, r⟩ => ⟨vs, by rw [upd_ne hb]; exact q, r⟩
    · rw [upd_ne (fun z => n (by rw [z]; exact hO))]; exact q
    · by_cases c : b = w.β i
      · rw [c, upd_same] at q; cases q
      · rw [upd_ne c] at q; exact q
  · rename_i k o' e
    have hs : ∃ v, σ[i]? = some (some v) ∧ Is K w.F w.μ v (.obj k) := by
      cases o' with
      | false => exact R.slot i _ e
      | true => obtain ⟨_, _, q, _⟩ := R.own i _ e; cases q
    obtain ⟨v, h1, h2⟩ := hs
    split at h
    · rename_i xs0 hc
      cases h
      cases h2 with
      | obj hk =>
        rename_i a
        obtain ⟨a', ha, vs, hv, hr⟩ := R.cell k _ hc
        rw [hk] at ha; cases ha
        have hO : w.O a := .inl (List.mem_of_getElem? hk)
        have nf := R.fr _ hO
        have neF : ∀ b u, w.F b = some u → b ≠ a := fun b u q z => by rw [z, nf] at q; cases q
        refine ⟨a, vs, h1, hv, hr, hO, fun vs' xs' r => ?_⟩
        have es : putL i xs' w.s = { w.s with g := w.s.g.set k (.lst xs') } := by unfold putL; rw [e]
        refine ⟨⟨w.F, w.μ, w.β, { w.s with g := w.s.g.set k (.lst xs') }⟩, es.symm, rfl, rfl, ⟨fun b u q => ?_, R.len, R.slot, fun j x q => ?_, fun k' c q => ?_, ?_, R.fr, R.nd, R.dis, R.dic⟩, ⟨fun b u q n => ?_, Sub.refl _, fun b u q => .inl q, fun b h => .inl h, Pre.refl _, fun b q => ?_⟩⟩
        · rw [upd_ne (neF b u q)]; exact R.ex b u q
        · obtain ⟨vs1, ds1, a0, a1, a2, a3⟩ := R.own j x q
          exact ⟨vs1, ds1, a0, a1, by rw [upd_ne (fun z => R.dic j ⟨x, q⟩ (by rw [z]; exact List.mem_of_getElem? hk))]; exact a2, a3⟩
        · have q : (w.s.g.set k (.lst xs'))[k']? = some c := q
          by_cases ck : k = k'
          · subst ck
            rw [List.getElem?_set_self (List.getElem?_eq_some_iff.mp hc).1] at q
            cases q
            exact ⟨a, hk, vs', upd_same, r⟩
          · rw [List.getElem?_set_ne ck] at q
            obtain ⟨b, hb1, h2⟩ := R.cell k' c q
            refine ⟨b, hb1, ?_⟩
            have hb : b ≠ a := fun z => ck (by
              rw [z] at hb1
              obtain ⟨l1, e1⟩ := List.getElem?_eq_some_iff.mp hk
              obtain ⟨l2, e2⟩ := List.getElem?_eq_some_iff.mp hb1
              exact (List.getElem_inj R.nd).mp (e1.trans e2.symm))
            revert h2
            cases c with
            | lst ds => exact fun ⟨vs, q, r⟩ => ⟨vs, by rw [upd_ne hb]; exact q, r⟩
        · show w.μ.length = (w.s.g.set _ _).length
          rw [List.length_set]; exact R.clen
        · rw [upd_ne (fun z => n (by rw [z]; exact hO))]; exact q
        · by_cases c : b = a
          · rw [c, upd_same] at q; cases q
          · rw [upd_ne c] at q; exact q
    · cases h
  · cases h
section
variable {X : Cx} {C : Ctx} {e o : Expr} {a : T} {apos pos : Pos} {i : Nat}
theorem tyV_l {K : PySem.W.Frag} {H : Hp} {a : Addr} {vs : List V} (h : H a = some (.lst vs)) : tyV K "list" (.ref a) H := Or.inl ⟨rfl, _, SqL.of h⟩
theorem se_pop0 (ho : PE X o (tVar i)) (hb : noSuper o = true) (hl : (apos.endLine == pos.line) = true) : PE X (.Call (.Attribute o "pop" apos) [] [] pos) (tE X.K C (.pop0 i)) :=
  PE.imp (pe_bm0 PySem.F.plainAttrs_list PySem.F.slot_list_pop PySem.F.type_list_pop mt_pop ho (base_ok hb) hl) fun σ H Q ⟨w, R, P⟩ => by
    have P : Post X.K w σ H (match getL i w.s with
      | some xs => match xs.getLast? with
        | some d => .ok (d, false) (putL i xs.dropLast w.s)
        | none => .bad
      | none => .bad) _ := P
    cases q : getL i w.s with
    | none => rw [q] at P; exact P.elim
    | some xs =>
      rw [q] at P
      obtain ⟨a, vs, h1, h2, h3, _, h4⟩ := R.getL q
      cases q2 : xs.getLast? with
      | none => simp only [q2] at P; exact P.elim
      | some d =>
        simp only [q2] at P
        obtain ⟨v, hv, iv⟩ := h3.getLast q2
        obtain ⟨w', e1, eF, eμ, R', S'⟩ := h4 vs.dropLast xs.dropLast h3.dropLast
        refine ⟨_, h1, tyV_l h2, a, vs, v, rfl, rfl, h2, hv, ?_⟩
        exact P w' _ e1 R' S' v (by show Is X.K w'.F w'.μ v d; rw [eF, eμ]; exact iv)
theorem se_pop1 (ho : PE X o (tVar i)) (ha : PE X e (tE X.K C a)) (hst : noStar e = true) (hb : noSuper o = true) (hl : (apos.endLine == pos.line) = true) :
    PE X (.Call (.Attribute o "pop" apos) [e] [] pos) (tE X.K C (.pop1 i a)) :=
  PE.imp (pe_bm PySem.F.plainAttrs_list PySem.F.slot_list_pop PySem.F.type_list_pop mt_popAt ho (pa_cons (PE.fz ha) pa_nil (star_ok hst)) (base_ok hb) (by rw [star_ok hst]; rfl) hl (star_ok hst) rfl) fun σ H Q ⟨w, R, P⟩ => by
    have P : Post X.K w σ H (match getL i w.s with
      | none => .bad
      | some _ => (ev C a w.s).bind fun x s1 => match x.1, getL i s1 with
        | .int k, some xs => if k.natAbs < 2 ^ 60 then match ixOf xs.length k with
          | some j => match xs[j]? with
            | some d => .ok (d, false) (putL i (xs.eraseIdx j) s1)
            | none => .bad
          | none => .bad
          else .bad
        | _, _ => .bad) _ := P
    cases q : getL i w.s with
    | none => rw [q] at P; exact P.elim
    | some xs0 =>
      rw [q] at P
      obtain ⟨a0, vs0, h1, h2, _⟩ := R.getL q
      refine ⟨_, h1, tyV_l h2, ?_⟩
      refine tF_of R (Post.bind P) fun x w1 H1 v R1 S1 P1 i1 => ?_
      obtain ⟨x, o⟩ := x
      cases i1 with
      | int k =>
        cases q1 : getL i w1.s with
        | none => simp only [q1] at P1; exact P1.elim
        | some xs =>
          simp only [q1] at P1
          obtain ⟨a1, vs, g1, g2, g3, _, g4⟩ := R1.getL q1
          rw [h1] at g1; cases g1
          by_cases hk : k.natAbs < 2 ^ 60
          · simp only [if_pos hk] at P1
            cases q2 : ixOf xs.length k with
            | none => simp only [q2] at P1; exact P1.elim
            | some j =>
              simp only [q2] at P1
              cases q3 : xs[j]? with
              | none => simp only [q3] at P1; exact P1.elim
              | some d =>
                simp only [q3] at P1
                obtain ⟨v, hv, iv⟩ := g3.get q3
                obtain ⟨w', e1, eF, eμ, R', S'⟩ := g4 (vs.eraseIdx j) (xs.eraseIdx j) (g3.eraseIdx j)
                have hs := (ixN_seq (show ixN xs.length k = some j from q2)).1
                refine ⟨a0, vs, k, j, v, rfl, rfl, g2, by omega, by omega, by rw [g3.length]; exact hs, hv, ?_⟩
                exact P1 w' _ e1 R' S' v (by show Is X.K w'.F w'.μ v d; rw [eF, eμ]; exact iv)
          · simp only [if_neg hk] at P1; exact P1.elim
      | _ => exact P1.elim
end
end Lm
set_option Elab.async false
set_option linter.all false
set_option maxRecDepth 100000
set_option maxHeartbeats 2000000
/-! The interpreter is sound, 8: targets, what is walked, comprehensions. -/
namespace Lm
open PySem L2

/-! ### slots that are stored -/
section
variable {K : PySem.W.Frag} {w w0 : W} {σ : L2.St} {H H0 : Hp}
theorem wr_get {i : Nat} {p x : D × Bool} {s : S} {j : Nat} (q : (wr i p s).r[j]? = some (some x)) : (j = i ∧ x = p ∧ i < s.r.length) ∨ (j ≠ i ∧ s.r[j]? = some (some x)) := by
  have q : (s.r.set i (some p))[j]? = some (some x) := q
  by_cases c : i = j
  · subst c
    by_cases hlt : i < s.r.length
    · rw [List.getElem?_set_self hlt] at q
      exact .inl ⟨rfl, (Option.some.inj (Option.some.inj q)).symm, hlt⟩
    · rw [List.getElem?_eq_none (by rw [List.length_set]; omega)] at q; cases q
  · rw [List.getElem?_set_ne c] at q
    exact .inr ⟨fun z => c z.symm, q⟩
theorem Rep.put (R : Rep K w σ H) {i : Nat} {d : D} {v : V} (h : Is K w.F w.μ v d) : Rep K { w with s := wr i (d, false) w.s } (σ.set i (some v)) H ∧ Step w H { w with s := wr i (d, false) w.s } H := by
  have ow' : ∀ j, W.ow { w with s := wr i (d, false) w.s } j → w.ow j ∧ j ≠ i := fun j ⟨x, q⟩ => by
    rcases wr_get q with ⟨_, q, _⟩ | ⟨c, q⟩
    · cases q
    · exact ⟨⟨x, q⟩, c⟩
  have O' : ∀ a, W.O { w with s := wr i (d, false) w.s } a → w.O a := fun a h => by
    rcases h with h | ⟨j, h, q⟩
    · exact .inl h
    · exact .inr ⟨j, (ow' j h).1, q⟩
  refine ⟨⟨R.ex, by show (w.s.r.set _ _).length = _; rw [List.length_set, List.length_set]; exact R.len, fun j x q => ?_, fun j x q => ?_, R.cell, R.clen, fun a h => R.fr a (O' a h), R.nd, fun j k hj hk q => R.dis j k (ow' j hj).1 (ow' k hk).1 q, fun j hj => R.dic j (ow' j hj).1⟩,
    ⟨fun a o h _ => h, Sub.refl _, fun a o h => .inl h, fun a h => .inl (O' a h), Pre.refl _, fun _ h => h⟩⟩
  · rcases wr_get q with ⟨rfl, q, hlt⟩ | ⟨c, q⟩
    · cases q
      exact ⟨v, by rw [List.getElem?_set_self (by rw [← R.len]; exact hlt)], h⟩
    · obtain ⟨u, a1, a2⟩ := R.slot j x q
      exact ⟨u, by rw [List.getElem?_set_ne (fun z => c z.symm)]; exact a1, a2⟩
  · rcases wr_get q with ⟨rfl, q, hlt⟩ | ⟨c, q⟩
    · cases q
    · obtain ⟨vs, ds, a0, a1, a2, a3⟩ := R.own j x q
      exact ⟨vs, ds, a0, by rw [List.getElem?_set_ne (fun z => c z.symm)]; exact a1, a2, a3⟩
theorem Rep.putV (R : Rep K w σ H) (S : Step w0 H0 w H) {i : Nat} {p : D × Bool} {v : V} (h : w.val K H0 H v p) : ∃ w', w'.s = wr i p w.s ∧ Rep K w' (σ.set i (some v)) H ∧ Step w0 H0 w' H := by
  obtain ⟨d, o⟩ := p
  cases o with
  | false =>
    obtain ⟨a, b⟩ := R.put (i := i) h
    exact ⟨_, rfl, a, S.trans b⟩
  | true =>
    obtain ⟨a, vs, ds, rfl, rfl, nf, no, hn, ha, hv⟩ := h
    have ow' : ∀ j, W.ow ⟨w.F, w.μ, fun j => if j = i then a else w.β j, wr i (.lst ds, true) w.s⟩ j → (j = i) ∨ (j ≠ i ∧ w.ow j) := fun j ⟨x, q⟩ => by
      rcases wr_get q with ⟨c, _, _⟩ | ⟨c, q⟩
      · exact .inl c
      · exact .inr ⟨c, ⟨x, q⟩⟩
    have bi : (if i = i then a else w.β i) = a := if_pos rfl
    have bj : ∀ {j}, j ≠ i → (if j = i then a else w.β j) = w.β j := fun h => if_neg h
    have O' : ∀ b, W.O ⟨w.F, w.μ, fun j => if j = i then a else w.β j, wr i (.lst ds, true) w.s⟩ b → b = a ∨ w.O b := fun b h => by
      rcases h with h | ⟨j, h, q⟩
      · exact .inr (.inl h)
      · have q : (if j = i then a else w.β j) = b := q
        rcases ow' j h with rfl | ⟨c, h⟩
        · rw [bi] at q; exact .inl q.symm
        · rw [bj c] at q; exact .inr (.inr ⟨j, h, q⟩)
    refine ⟨⟨w.F, w.μ, fun j => if j = i then a else w.β j, wr i (.lst ds, true) w.s⟩, rfl, ⟨R.ex, by show (w.s.r.set _ _).length = _; rw [List.length_set, List.length_set]; exact R.len, fun j x q => ?_, fun j x q => ?_, R.cell, R.clen, fun b h => ?_, R.nd, fun j k hj hk q => ?_, fun j hj => ?_⟩,
      ⟨S.keep, S.sub, S.newF, fun b h => ?_, S.pre, S.live⟩⟩
    · rcases wr_get q with ⟨rfl, q, hlt⟩ | ⟨c, q⟩
      · cases q
      · obtain ⟨u, a1, a2⟩ := R.slot j x q
        exact ⟨u, by rw [List.getElem?_set_ne (fun z => c z.symm)]; exact a1, a2⟩
    · rcases wr_get q with ⟨ej, q, hlt⟩ | ⟨c, q⟩
      · cases q
        subst ej
        refine ⟨vs, ds, rfl, ?_, ?_, hv⟩
        · rw [List.getElem?_set_self (by rw [← R.len]; exact hlt)]
          show some (some (V.ref a)) = some (some (V.ref (if j = j then a else w.β j)))
          rw [bi]
        · show H (if j = j then a else w.β j) = _
          rw [bi]; exact ha
      · obtain ⟨vs, ds, a0, a1, a2, a3⟩ := R.own j x q
        refine ⟨vs, ds, a0, ?_, ?_, a3⟩
        · rw [List.getElem?_set_ne (fun z => c z.symm)]
          show _ = some (some (V.ref (if j = i then a else w.β j)))
          rw [bj c]; exact a1
        · show H (if j = i then a else w.β j) = _
          rw [bj c]; exact a2
    · rcases O' b h with rfl | h
      · exact nf
      · exact R.fr b h
    · have q : (if j = i then a else w.β j) = (if k = i then a else w.β k) := q
      rcases ow' j hj with ej | ⟨c, hj⟩
      · subst ej
        rcases ow' k hk with ek | ⟨c', hk⟩
        · exact ek.symm
        · rw [bi, bj c'] at q
          exact (no (.inr ⟨k, hk, q.symm⟩)).elim
      · rcases ow' k hk with ek | ⟨c', hk⟩
        · subst ek
          rw [bi, bj c] at q
          exact (no (.inr ⟨j, by assumption, q⟩)).elim
        · rw [bj c, bj c'] at q
          exact R.dis j k hj hk q
    · show (if j = i then a else w.β j) ∉ w.μ
      rcases ow' j hj with rfl | ⟨c, hj⟩
      · rw [bi]; exact fun z => no (.inl z)
      · rw [bj c]; exact R.dic j hj
    · rcases O' b h with rfl | h
      · exact .inr hn
      · exact S.newO b h
end
mutual
def gOf (K : PySem.W.Frag) : Tg → TG
  | .nm i => gName i
  | .tup ts => gTup K ts.length (gsOf K ts)
def gsOf (K : PySem.W.Frag) : List Tg → TGs
  | [] => gNil
  | t :: ts => gCons (gOf K t) (gsOf K ts)
end
mutual
/-- the slots of a target -/
def slotsT : Tg → List Nat
  | .nm i => [i]
  | .tup ts => slotsTs ts
def slotsTs : List Tg → List Nat
  | [] => []
  | t :: ts => slotsT t ++ slotsTs ts
end
/-- only these slots have changed -/
def OnlyAt (l : List Nat) (σ σ' : L2.St) : Prop := ∀ j : Nat, j ∉ l → σ'[j]? = σ[j]?
theorem bindTs_len : ∀ (ts : List Tg) (ds : List D) (s s' : S), bindTs ts ds s = .ok () s' → ds.length = ts.length
  | [], [], _, _, _ => rfl
  | [], _ :: _, _, _, e => by cases e
  | _ :: _, [], _, _, e => by cases e
  | t :: ts, d :: ds, s, s', e => by
    have e : (bindT t d false s).bind (fun _ s1 => bindTs ts ds s1) = .ok () s' := e
    cases q : bindT t d false s with
    | ok a s1 => rw [q] at e; exact congrArg (· + 1) (bindTs_len ts ds s1 s' e)
    | exc _ _ _ => rw [q] at e; cases e
    | bad => rw [q] at e; cases e
mutual
theorem tg_read {K : PySem.W.Frag} : ∀ (tg : Tg) {w : W} {σ : L2.St} {H : Hp} {d : D} {v : V} {s' : S} {Q : L2.St → Hp → Prop}, bindT tg d false w.s = .ok () s' → Rep K w σ H → Is K w.F w.μ v d →
    (∀ w' σ', w'.s = s' → Rep K w' σ' H → Step w H w' H → OnlyAt (slotsT tg) σ σ' → w'.F = w.F → w'.μ = w.μ → Q σ' H) → gOf K tg v σ H Q
  | .nm i, w, σ, H, d, v, s', Q, e, R, h, q => by
    have e : Lm.R.ok () (wr i (d, false) w.s) = Lm.R.ok () s' := e
    cases e
    obtain ⟨a, b⟩ := R.put (i := i) h
    exact q _ _ rfl a b (fun j hj => List.getElem?_set_ne (fun z => hj (by simp [slotsT, z]))) rfl rfl
  | .tup ts, w, σ, H, d, v, s', Q, e, R, h, q => by
    cases h with
    | tup h1 r =>
      rename_i a vs ds
      have e : bindTs ts ds w.s = .ok () s' := e
      have len := bindTs_len ts ds w.s s' e
      exact ⟨a, vs, rfl, R.ex.t h1, by rw [r.length]; exact len, tgs_read ts e R r q⟩
    | _ => cases e
theorem tgs_read {K : PySem.W.Frag} : ∀ (ts : List Tg) {w : W} {σ : L2.St} {H : Hp} {ds : List D} {vs : List V} {s' : S} {Q : L2.St → Hp → Prop}, bindTs ts ds w.s = .ok () s' → Rep K w σ H → IsAll K w.F w.μ vs ds →
    (∀ w' σ', w'.s = s' → Rep K w' σ' H → Step w H w' H → OnlyAt (slotsTs ts) σ σ' → w'.F = w.F → w'.μ = w.μ → Q σ' H) → gsOf K ts vs σ H Q
  | [], w, σ, H, ds, vs, s', Q, e, R, h, q => by
    cases h with
    | nil =>
      have e : Lm.R.ok () w.s = Lm.R.ok () s' := e
      cases e
      exact ⟨rfl, q w σ rfl R (Step.refl w H) (fun _ _ => rfl) rfl rfl⟩
    | cons _ _ => cases e
  | t :: ts, w, σ, H, ds, vs, s', Q, e, R, h, q => by
    cases h with
    | nil => cases e
    | cons h r =>
      rename_i v vs d ds
      have e : (bindT t d false w.s).bind (fun _ s1 => bindTs ts ds s1) = .ok () s' := e
      cases q1 : bindT t d false w.s with
      | ok a s1 =>
        rw [q1] at e
        refine ⟨v, vs, rfl, tg_read t q1 R h fun w1 σ1 e1 R1 S1 O1 eF eμ => ?_⟩
        have e : bindTs ts ds s1 = .ok () s' := e
        rw [← e1] at e
        refine tgs_read ts e R1 (by rw [eF, eμ]; exact r) fun w2 σ2 e2 R2 S2 O2 fF fμ => ?_
        exact q w2 σ2 e2 R2 (S1.trans S2) (fun j hj => by
          have hj : j ∉ slotsT t ++ slotsTs ts := hj
          rw [List.mem_append, not_or] at hj
          exact (O2 j hj.2).trans (O1 j hj.1)) (fF.trans eF) (fμ.trans eμ)
      | exc _ _ _ => rw [q1] at e; cases e
      | bad => rw [q1] at e; cases e
end

/-! ### what is walked -/
structure WOk (K : PySem.W.Frag) (w0 : W) (xs : List D) (J : It) : Prop where
  go : ∀ i H, Sub w0.F H → i < xs.length → J.go i H
  stop : ∀ H, Sub w0.F H → J.stop xs.length H
  yld : ∀ (i : Nat) H v H' (w : W) σ, Rep K w σ H → Sub w0.F w.F → Pre w0.μ w.μ → J.yld i H v H' → ∀ d, xs[i]? = some d → ∃ w', w'.s = w.s ∧ Rep K w' σ H' ∧ Step w H w' H' ∧ Is K w'.F w'.μ v d
def tI (K : PySem.W.Frag) (C : Ctx) (sk : SK) (sa : List T) : TI := fun σ H R => ∃ w, Rep K w σ H ∧ Post K w σ H ((evs C sa w.s).bind fun ds s1 => Lm.R.of (srcD sk ds) s1) fun xs w' H' => ∀ J, WOk K w' xs J → R J H'
theorem PI.imp {X : Cx} {tg iter : Expr} {t t' : TI} (h : PI X tg iter t) (q : ∀ σ H R, t' σ H R → t σ H R) : PI X tg iter t' := ⟨fun pins s σ H R I hw => h.run pins s σ H R I (q σ H R hw)⟩
section
variable {K : PySem.W.Frag} {w : W} {σ : L2.St} {H : Hp}
/-- the items are there already -/
theorem wok_here {xs : List D} {J : It} {w0 : W} (go : ∀ i H, Sub w0.F H → i < xs.length → J.go i H) (stop : ∀ H, Sub w0.F H → J.stop xs.length H)
    (yld : ∀ (i : Nat) H v H', Sub w0.F H → J.yld i H v H' → H' = H ∧ ∀ d, xs[i]? = some d → Is K w0.F w0.μ v d) : WOk K w0 xs J :=
  ⟨go, stop, fun i H v H' w σ R s p y d hd => by
    obtain ⟨rfl, q⟩ := yld i H v H' (s.trans R.ex) y
    exact ⟨w, rfl, R, Step.refl w H', (q d hd).mono s p⟩⟩
/-- each item in a new pair -/
theorem wok_pair {xs : List D} {J : It} {w0 : W} (go : ∀ i H, Sub w0.F H → i < xs.length → J.go i H) (stop : ∀ H, Sub w0.F H → J.stop xs.length H)
    (yld : ∀ (i : Nat) H v H', Sub w0.F H → J.yld i H v H' → ∃ T vs, v = .ref T ∧ H T = none ∧ H' = upd H T (.tup vs) ∧ ∀ d, xs[i]? = some d → ∃ ds, d = .tup ds ∧ IsAll K w0.F w0.μ vs ds) : WOk K w0 xs J :=
  ⟨go, stop, fun i H v H' w σ R s p y d hd => by
    obtain ⟨T, vs, rfl, hT, rfl, q⟩ := yld i H v H' (s.trans R.ex) y
    obtain ⟨ds, rfl, r⟩ := q d hd
    obtain ⟨R', S'⟩ := new_still (o := .tup vs) R hT
    exact ⟨{ w with F := upd w.F T (.tup vs) }, rfl, R', S', .tup (SqT.of upd_same) ((r.mono s p).mono (Sub.up (R.freeF hT)) (Pre.refl _))⟩⟩
theorem get_is {vs : List V} {ds : List D} (r : IsAll K w.F w.μ vs ds) {i : Nat} {v : V} {d : D} (h : vs[i]? = some v) (h' : ds[i]? = some d) : Is K w.F w.μ v d := by
  obtain ⟨v', e, q⟩ := r.get h'
  rw [h] at e; cases e; exact q
theorem wok_list {a : Addr} {vs : List V} {ds : List D} (h : SqL K w.F a vs) (r : IsAll K w.F w.μ vs ds) : WOk K w ds (Itl K a) :=
  wok_here (fun i H s hi => ⟨vs, vs[i]'(by rw [r.length]; exact hi), s.l h, by simp [r.length, hi]⟩) (fun H s => ⟨vs, s.l h, by rw [r.length]; exact Nat.le_refl _⟩) fun i H v H' s ⟨e, y⟩ => ⟨e, fun d hd => get_is r (y vs (s.l h)) hd⟩
theorem wok_tup {a : Addr} {vs : List V} {ds : List D} (h : SqT K w.F a vs) (r : IsAll K w.F w.μ vs ds) : WOk K w ds (Itt K a) :=
  wok_here (fun i H s hi => ⟨vs, vs[i]'(by rw [r.length]; exact hi), s.t h, by simp [r.length, hi]⟩) (fun H s => ⟨vs, s.t h, by rw [r.length]; exact Nat.le_refl _⟩) fun i H v H' s ⟨e, y⟩ => ⟨e, fun d hd => get_is r (y vs (s.t h)) hd⟩
theorem wok_str (z : Str) : WOk K w (z.cps.toList.map fun c => .str [c]) (Its z) :=
  wok_here (fun i H s hi => by show i < z.cps.size; simpa using hi) (fun H s => by show z.cps.size ≤ _; simp) fun i H v H' s ⟨e, c, hc, ev⟩ => ⟨e, fun d hd => by
    subst ev
    rw [List.getElem?_map] at hd
    have hc' : z.cps.toList[i]? = some c := by simpa using hc
    rw [hc'] at hd
    cases hd
    exact .str ⟨#[c]⟩⟩
theorem wok_range {lo : Int} {n : Nat} : WOk K w ((List.range n).map fun k : Nat => D.int (lo + k)) (Itr lo n) :=
  wok_here (fun i H s hi => by show i < n; simpa using hi) (fun H s => by show n ≤ _; simp) fun i H v H' s ⟨e, ev⟩ => ⟨e, fun d hd => by
    subst ev
    rw [List.getElem?_map] at hd
    by_cases hi : i < n
    · rw [List.getElem?_range hi] at hd
      cases hd
      exact .int _
    · rw [List.getElem?_eq_none (by simpa using hi)] at hd
      cases hd⟩
theorem scr_all : ∀ (ns : List Int), IsAll K w.F w.μ (ns.map V.int) (ns.map D.int)
  | [] => .nil
  | n :: ns => .cons (.int n) (scr_all ns)
theorem zipIdx_get {ds : List D} {i : Nat} {d : D} (h : (ds.zipIdx.map fun p => D.tup [.int p.2, p.1])[i]? = some d) : ∃ x, ds[i]? = some x ∧ d = .tup [.int i, x] := by
  rw [List.getElem?_map, List.getElem?_zipIdx] at h
  cases q : ds[i]? with
  | none => rw [q] at h; cases h
  | some x => rw [q] at h; cases h; exact ⟨x, rfl, by simp⟩
theorem wok_enumL {a : Addr} {vs : List V} {ds : List D} (h : SqL K w.F a vs) (r : IsAll K w.F w.μ vs ds) : WOk K w (ds.zipIdx.map fun p => .tup [.int p.2, p.1]) (Ite K a) :=
  wok_pair (fun i H s hi => ⟨vs, vs[i]'(by rw [r.length]; simpa using hi), s.l h, by have : i < vs.length := by rw [r.length]; simpa using hi
                                                                                     simp [this]⟩) (fun H s => ⟨vs, s.l h, by simp [r.length]⟩) fun i H v H' s ⟨T, x, ev, hT, eH, y⟩ => ⟨T, _, ev, hT, eH, fun d hd => by
      obtain ⟨x', hx, rfl⟩ := zipIdx_get hd
      exact ⟨_, rfl, .cons (.int _) (.cons (get_is r (y vs (s.l h)) hx) .nil)⟩⟩
theorem wok_enumT {a : Addr} {vs : List V} {ds : List D} (h : SqT K w.F a vs) (r : IsAll K w.F w.μ vs ds) : WOk K w (ds.zipIdx.map fun p => .tup [.int p.2, p.1]) (IteT K a vs) :=
  wok_pair (fun i H s hi => ⟨s.t h, by rw [r.length]; simpa using hi⟩) (fun H s => ⟨s.t h, by simp [r.length]⟩) fun i H v H' s ⟨T, x, ev, hT, eH, y⟩ => ⟨T, _, ev, hT, eH, fun d hd => by
      obtain ⟨x', hx, rfl⟩ := zipIdx_get hd
      exact ⟨_, rfl, .cons (.int _) (.cons (get_is r y hx) .nil)⟩⟩
theorem wok_enumS (z : Str) : WOk K w ((z.cps.toList.map fun c => D.str [c]).zipIdx.map fun p => .tup [.int p.2, p.1]) (IteS z) :=
  wok_pair (fun i H s hi => by show i < z.cps.size; simpa using hi) (fun H s => by show z.cps.size = _; simp) fun i H v H' s ⟨T, c, ev, hT, eH, y⟩ => ⟨T, _, ev, hT, eH, fun d hd => by
      obtain ⟨x', hx, rfl⟩ := zipIdx_get hd
      rw [List.getElem?_map] at hx
      have hc' : z.cps.toList[i]? = some c := by simpa using y
      rw [hc'] at hx
      cases hx
      exact ⟨_, rfl, .cons (.int _) (.cons (.str ⟨#[c]⟩) .nil)⟩⟩
end
section
variable {X : Cx} {C : Ctx} {tg e e2 : Expr} {a b : T} {p pos tpos : Pos} {elts : List Expr} {kk : Nat}
theorem si_val (h : PE X e (tE X.K C a)) : PI X tg e (tI X.K C .val [a]) := PI.imp (pi_any (PE.fz h)) fun σ H R ⟨w, r, P⟩ => by
  have P : Post X.K w σ H (((ev C a w.s).bind fun x s1 => (evs C [] s1).bind fun xs s2 => .ok (x.1 :: xs) s2).bind fun ds s1 => Lm.R.of (srcD .val ds) s1) _ := P
  rw [Lm.R.bind_assoc] at P
  refine tF_of r (Post.bind P) fun x w1 H1 v R1 S1 P1 i1 => ?_
  obtain ⟨xs, hx, P2⟩ := Post.of (show Post X.K w1 σ H1 (Lm.R.of (srcD .val [x.1]) w1.s) _ from P1)
  have P3 := Post.here R1 P2
  obtain ⟨x, o⟩ := x
  cases i1 with
  | lst h r => cases hx; exact .inl ⟨_, _, rfl, SqL.of (R1.ex _ _ h), P3 _ (wok_list (.inl (.inl h)) r)⟩
  | tup h r => cases hx; exact .inr (.inl ⟨_, _, rfl, R1.ex.t h, P3 _ (wok_tup h r)⟩)
  | str z => cases hx; exact .inr (.inr ⟨z, rfl, P3 _ (wok_str z)⟩)
  | scr h => cases hx; exact .inl ⟨_, _, rfl, R1.ex.l h, P3 _ (wok_list h (scr_all _))⟩
  | _ => cases hx
theorem si_rng1 (h : PE X e (tE X.K C a)) (hg : Gl X "range") (hm : X.mg "range" = none) (hs : noStar e = true) : PI X tg (.Call (.Name "range" p) [e] [] pos) (tI X.K C .rng1 [a]) :=
  PI.imp (pi_range1 hg hm (pa_cons (PE.fz h) pa_nil (star_ok hs)) (star_ok hs)) fun σ H R ⟨w, r, P⟩ => by
    have P : Post X.K w σ H (((ev C a w.s).bind fun x s1 => (evs C [] s1).bind fun xs s2 => .ok (x.1 :: xs) s2).bind fun ds s1 => Lm.R.of (srcD .rng1 ds) s1) _ := P
    rw [Lm.R.bind_assoc] at P
    refine tF_of r (Post.bind P) fun x w1 H1 v R1 S1 P1 i1 => ?_
    obtain ⟨xs, hx, P2⟩ := Post.of (show Post X.K w1 σ H1 (Lm.R.of (srcD .rng1 [x.1]) w1.s) _ from P1)
    have P3 := Post.here R1 P2
    obtain ⟨x, o⟩ := x
    cases i1 with
    | int n =>
      obtain ⟨h1, rfl⟩ := ite_some hx
      refine ⟨n, rfl, by omega, by omega, P3 _ ?_⟩
      have e : rangeD 0 n = (List.range n.toNat).map fun k : Nat => D.int (0 + k) := by unfold rangeD; rw [Int.sub_zero]
      rw [e]
      exact wok_range
    | _ => cases hx
theorem evs2 (s : S) : evs C [a, b] s = (ev C a s).bind fun x s1 => (ev C b s1).bind fun y s2 => .ok [x.1, y.1] s2 := by
  show ((ev C a s).bind fun x s1 => ((ev C b s1).bind fun y s2 => (evs C [] s2).bind fun xs s3 => .ok (y.1 :: xs) s3).bind fun xs s2 => .ok (x.1 :: xs) s2) = _
  congr 1
  funext x s1
  rw [Lm.R.bind_assoc]
  rfl
theorem si_rng2 (h : PE X e (tE X.K C a)) (h2 : PE X e2 (tE X.K C b)) (hg : Gl X "range") (hm : X.mg "range" = none) (hs : noStar e = true) (hs2 : noStar e2 = true) : PI X tg (.Call (.Name "range" p) [e, e2] [] pos) (tI X.K C .rng2 [a, b]) :=
  PI.imp (pi_range2 hg hm (pa_cons (PE.fz h) (pa_cons (PE.fz h2) pa_nil (star_ok hs2)) (star_ok hs)) (by rw [star_ok hs, star_ok hs2]; rfl) (star_ok hs2)) fun σ H R ⟨w, r, P⟩ => by
    rw [evs2, Lm.R.bind_assoc] at P
    refine tF_of r (Post.bind P) fun x w1 H1 v R1 S1 P1 i1 => ?_
    simp only [Lm.R.bind_assoc] at P1
    refine tF_of R1 (Post.bind P1) fun y w2 H2 u R2 S2 P2 i2 => ?_
    obtain ⟨xs, hx, P2⟩ := Post.of (show Post X.K w2 σ H2 (Lm.R.of (srcD .rng2 [x.1, y.1]) w2.s) _ from P2)
    have P3 := Post.here R2 P2
    obtain ⟨x, o⟩ := x
    obtain ⟨y, o2⟩ := y
    cases i1 with
    | int m => cases i2 with
      | int n =>
        obtain ⟨⟨h1, h2⟩, rfl⟩ := ite_some hx
        exact ⟨m, n, rfl, ⟨by omega, by omega, by omega, by omega⟩, P3 _ wok_range⟩
      | _ => cases hx
    | _ => cases hx
theorem si_enum (h : PE X e (tE X.K C a)) (hg : Gl X "enumerate") (hm : X.mg "enumerate" = none) (hs : noStar e = true) : PI X (.Tuple elts kk tpos) (.Call (.Name "enumerate" p) [e] [] pos) (tI X.K C .enum [a]) :=
  PI.imp (pi_enumA hg hm (pa_cons (PE.fz h) pa_nil (star_ok hs)) (star_ok hs)) fun σ H R ⟨w, r, P⟩ => by
    have P : Post X.K w σ H (((ev C a w.s).bind fun x s1 => (evs C [] s1).bind fun xs s2 => .ok (x.1 :: xs) s2).bind fun ds s1 => Lm.R.of (srcD .enum ds) s1) _ := P
    rw [Lm.R.bind_assoc] at P
    refine tF_of r (Post.bind P) fun x w1 H1 v R1 S1 P1 i1 => ?_
    obtain ⟨xs, hx, P2⟩ := Post.of (show Post X.K w1 σ H1 (Lm.R.of (srcD .enum [x.1]) w1.s) _ from P1)
    have P3 := Post.here R1 P2
    obtain ⟨x, o⟩ := x
    cases i1 with
    | lst h r => cases hx; exact ⟨_, rfl, .inl ⟨_, _, rfl, SqL.of (R1.ex _ _ h), P3 _ (wok_enumL (.inl (.inl h)) r)⟩⟩
    | tup h r => cases hx; exact ⟨_, rfl, .inr (.inl ⟨_, _, rfl, R1.ex.t h, P3 _ (wok_enumT h r)⟩)⟩
    | str z => cases hx; exact ⟨_, rfl, .inr (.inr ⟨z, rfl, P3 _ (wok_enumS z)⟩)⟩
    | _ => cases hx
end
end Lm
set_option Elab.async false
set_option linter.all false
set_option maxRecDepth 100000
set_option maxHeartbeats 2000000
/-! The interpreter is sound, 9: comprehensions. -/
namespace Lm
open PySem L2

theorem wipeR_get {r : List (Option (D × Bool))} : ∀ (own : List Nat) (j : Nat), (wipeR r own)[j]? = if j ∈ own then (r[j]?).map (fun _ => none) else r[j]?
  | [], j => by simp [wipeR]
  | i :: is, j => by
    have ih := wipeR_get (r := r) is j
    show ((wipeR r is).set i none)[j]? = _
    rw [List.getElem?_set]
    by_cases c : i = j
    · subst c
      rw [if_pos rfl, if_pos List.mem_cons_self]
      cases q : r[i]? with
      | none =>
        have : ¬ i < (wipeR r is).length := fun h => by
          have h2 := List.getElem?_eq_getElem h
          rw [ih, q] at h2
          split at h2 <;> cases h2
        rw [if_neg this]; rfl
      | some x =>
        have : i < (wipeR r is).length := by
          rw [q] at ih
          by_cases hm : i ∈ is
          · rw [if_pos hm] at ih; exact (List.getElem?_eq_some_iff.mp ih).1
          · rw [if_neg hm] at ih; exact (List.getElem?_eq_some_iff.mp ih).1
        rw [if_pos this]; rfl
    · rw [if_neg c, ih]
      have : (j ∈ i :: is) ↔ j ∈ is := ⟨fun h => (List.mem_cons.mp h).elim (fun z => absurd z.symm c) id, List.mem_cons_of_mem _⟩
      by_cases hm : j ∈ is
      · rw [if_pos hm, if_pos (this.mpr hm)]
      · rw [if_neg hm, if_neg (fun h => hm (this.mp h))]
theorem wipe_get {σ : L2.St} : ∀ (own : List Nat) (j : Nat), (wipe σ own)[j]? = if j ∈ own then (σ[j]?).map (fun _ => none) else σ[j]?
  | [], j => by simp [wipe]
  | i :: is, j => by
    have ih := wipe_get (σ := σ) is j
    show ((wipe σ is).set i none)[j]? = _
    rw [List.getElem?_set]
    by_cases c : i = j
    · subst c
      rw [if_pos rfl, if_pos List.mem_cons_self, wipe_length]
      cases q : σ[i]? with
      | none =>
        rw [if_neg (by rw [List.getElem?_eq_none_iff] at q; omega)]
        try rfl
      | some x =>
        rw [if_pos (List.getElem?_eq_some_iff.mp q).1]
        rfl
    · rw [if_neg c, ih]
      have : (j ∈ i :: is) ↔ j ∈ is := ⟨fun h => (List.mem_cons.mp h).elim (fun z => absurd z.symm c) id, List.mem_cons_of_mem _⟩
      by_cases hm : j ∈ is
      · rw [if_pos hm, if_pos (this.mpr hm)]
      · rw [if_neg hm, if_neg (fun h => hm (this.mp h))]
theorem wipe_only {σ σ' : L2.St} {own l : List Nat} (h : OnlyAt l (wipe σ own) σ') (hs : ∀ j ∈ l, j ∈ own) (hl : σ'.length = σ.length) : wipe σ' own = wipe σ own := by
  apply List.ext_getElem?
  intro j
  rw [wipe_get, wipe_get]
  by_cases c : j ∈ own
  · rw [if_pos c, if_pos c]
    by_cases hj : j < σ.length
    · rw [List.getElem?_eq_getElem hj, List.getElem?_eq_getElem (by omega)]; rfl
    · rw [List.getElem?_eq_none (by omega), List.getElem?_eq_none (by omega)]
  · rw [if_neg c, if_neg c, h j (fun z => c (hs j z)), wipe_get, if_neg c]
theorem backR_get {r0 r : List (Option (D × Bool))} (hl : r0.length = r.length) : ∀ (own : List Nat) (j : Nat), (backR r0 r own)[j]? = if j ∈ own then r0[j]? else r[j]?
  | [], j => by simp [backR]
  | i :: is, j => by
    have len : (backR r0 r is).length = r.length := by
      clear j
      induction is with
      | nil => rfl
      | cons k ks ih =>
        show (match r0[k]? with | some x => (backR r0 r ks).set k x | none => backR r0 r ks).length = _
        split
        · rw [List.length_set]; exact ih
        · exact ih
    have ih := backR_get hl is j
    show (match r0[i]? with | some x => (backR r0 r is).set i x | none => backR r0 r is)[j]? = _
    by_cases c : i = j
    · subst c
      rw [if_pos List.mem_cons_self]
      cases q : r0[i]? with
      | none =>
        have : ¬ i < (backR r0 r is).length := by rw [List.getElem?_eq_none_iff] at q; omega
        exact List.getElem?_eq_none (show (backR r0 r is).length ≤ i by omega)
      | some x =>
        have : i < (backR r0 r is).length := by have := (List.getElem?_eq_some_iff.mp q).1; omega
        show ((backR r0 r is).set i x)[i]? = some x
        rw [List.getElem?_set_self this]
    · have e : (match r0[i]? with | some x => (backR r0 r is).set i x | none => backR r0 r is)[j]? = (backR r0 r is)[j]? := by
        split
        · rw [List.getElem?_set_ne c]
        · rfl
      rw [e, ih]
      have : (j ∈ i :: is) ↔ j ∈ is := ⟨fun h => (List.mem_cons.mp h).elim (fun z => absurd z.symm c) id, List.mem_cons_of_mem _⟩
      by_cases hm : j ∈ is
      · rw [if_pos hm, if_pos (this.mpr hm)]
      · rw [if_neg hm, if_neg (fun h => hm (this.mp h))]
mutual
theorem bindT_len : ∀ (tg : Tg) (d : D) (o : Bool) (s s' : S), bindT tg d o s = .ok () s' → s'.r.length = s.r.length
  | .nm i, d, o, s, s', e => by
    have e : R.ok () (wr i (d, o) s) = R.ok () s' := e
    cases e
    show (s.r.set _ _).length = _
    rw [List.length_set]
  | .tup ts, d, o, s, s', e => by
    cases d <;> first | (cases e; done) | exact bindTs_lenr ts _ s s' e
theorem bindTs_lenr : ∀ (ts : List Tg) (ds : List D) (s s' : S), bindTs ts ds s = .ok () s' → s'.r.length = s.r.length
  | [], [], s, s', e => by
    have e : R.ok () s = R.ok () s' := e
    cases e; rfl
  | [], _ :: _, _, _, e => by cases e
  | _ :: _, [], _, _, e => by cases e
  | t :: ts, d :: ds, s, s', e => by
    have e : (bindT t d false s).bind (fun _ s1 => bindTs ts ds s1) = .ok () s' := e
    cases q : bindT t d false s with
    | ok a s1 => rw [q] at e; exact (bindTs_lenr ts ds s1 s' e).trans (bindT_len t d false s s1 q)
    | exc _ _ _ => rw [q] at e; cases e
    | bad => rw [q] at e; cases e
end
section
variable {K : PySem.W.Frag} {w w0 w1 : W} {σ : L2.St} {H H0 H1 : Hp}
theorem wipe_ow {own : List Nat} {j : Nat} {x : D × Bool} (q : (wipeS own w.s).r[j]? = some (some x)) : w.s.r[j]? = some (some x) ∧ j ∉ own := by
  have q : (wipeR w.s.r own)[j]? = some (some x) := q
  rw [wipeR_get] at q
  by_cases c : j ∈ own
  · rw [if_pos c] at q
    cases h : w.s.r[j]? with
    | none => rw [h] at q; cases q
    | some y => rw [h] at q; cases q
  · rw [if_neg c] at q; exact ⟨q, c⟩
theorem Rep.wipe (R : Rep K w σ H) (own : List Nat) : Rep K { w with s := wipeS own w.s } (L2.wipe σ own) H ∧ Step w H { w with s := wipeS own w.s } H := by
  have ow' : ∀ j, W.ow { w with s := wipeS own w.s } j → w.ow j := fun j ⟨x, q⟩ => ⟨x, (wipe_ow (w := w) q).1⟩
  have O' : ∀ a, W.O { w with s := wipeS own w.s } a → w.O a := fun a h => by
    rcases h with h | ⟨j, h, q⟩
    · exact .inl h
    · exact .inr ⟨j, ow' j h, q⟩
  have lenw : (wipeR w.s.r own).length = w.s.r.length := by
    clear O' ow'
    induction own with
    | nil => rfl
    | cons k ks ih => show ((wipeR w.s.r ks).set k none).length = _; rw [List.length_set]; exact ih
  refine ⟨⟨R.ex, by rw [wipe_length]; exact lenw.trans R.len, fun j x q => ?_, fun j x q => ?_, R.cell, R.clen, fun a h => R.fr a (O' a h), R.nd, fun j k hj hk q => R.dis j k (ow' j hj) (ow' k hk) q, fun j hj => R.dic j (ow' j hj)⟩,
    ⟨fun a o h _ => h, Sub.refl _, fun a o h => .inl h, fun a h => .inl (O' a h), Pre.refl _, fun _ h => h⟩⟩
  · obtain ⟨q, c⟩ := wipe_ow (w := w) q
    obtain ⟨v, a1, a2⟩ := R.slot j x q
    exact ⟨v, by rw [wipe_get, if_neg c]; exact a1, a2⟩
  · obtain ⟨q, c⟩ := wipe_ow (w := w) q
    obtain ⟨vs, ds, a0, a1, a2, a3⟩ := R.own j x q
    exact ⟨vs, ds, a0, by rw [wipe_get, if_neg c]; exact a1, a2, a3⟩
theorem Rep.side (R : Rep K w σ H) {a : Addr} {o : HO} (nf : w.F a = none) (no : ¬ w.O a) : Rep K w σ (upd H a o) where
  ex := fun b u e => by rw [upd_ne (fun z => by rw [z, nf] at e; cases e)]; exact R.ex b u e
  len := R.len
  slot := R.slot
  own := fun i d e => let ⟨vs, ds, h0, h1, h2, h3⟩ := R.own i d e; ⟨vs, ds, h0, h1, by rw [upd_ne (fun z => no (.inr ⟨i, ⟨d, e⟩, z⟩))]; exact h2, h3⟩
  cell := fun k c e => by
    obtain ⟨b, h1, h2⟩ := R.cell k c e
    refine ⟨b, h1, ?_⟩
    have hb : b ≠ a := fun z => no (.inl (by rw [← z]; exact List.mem_of_getElem? h1))
    revert h2
    cases c with
    | lst ds => exact fun ⟨vs, q, r⟩ => ⟨vs, by rw [upd_ne hb]; exact q, r⟩
  clen := R.clen
  fr := R.fr
  nd := R.nd
  dis := R.dis
  dic := R.dic
theorem Step.side (S : Step w H w1 H1) {a : Addr} {o : HO} (h : H a = none) : Step w H w1 (upd H1 a o) :=
  ⟨fun b u e n => by rw [upd_ne (ne_of_none e h)]; exact S.keep b u e n, S.sub, S.newF, S.newO, S.pre, fun b e => by
    by_cases q : b = a
    · rw [q, upd_same] at e; cases e
    · rw [upd_ne q] at e; exact S.live b e⟩
theorem Step.stay (S : Step w H w1 H1) {a : Addr} {o : HO} (h : H a = some o) (nf : w.F a = none) (no : ¬ w.O a) : H1 a = some o ∧ w1.F a = none ∧ ¬ w1.O a := by
  refine ⟨S.keep a o h no, ?_, fun z => ?_⟩
  · cases q : w1.F a with
    | none => rfl
    | some u =>
      rcases S.newF a u q with z | z | z
      · rw [nf] at z; cases z
      · exact (no z).elim
      · rw [h] at z; cases z
  · rcases S.newO a z with z | z
    · exact no z
    · rw [h] at z; cases z
/-- behind the block: the block's names are what they were -/
theorem Rep.back (R0 : Rep K w0 σ H0) {own : List Nat} (hc : calmS own w0.s = true) (R : Rep K w (L2.wipe σ own) H) (s : Sub w0.F w.F) (p : Pre w0.μ w.μ) : Rep K { w with s := backS own w0.s w.s } σ H ∧ Step w H { w with s := backS own w0.s w.s } H := by
  have hl : w0.s.r.length = w.s.r.length := by rw [R0.len, R.len, wipe_length]
  have calm : ∀ j ∈ own, ∀ d, w0.s.r[j]? ≠ some (some (d, true)) := fun j hj d e => by
    have h := List.all_eq_true.mp hc j hj
    rw [e] at h; cases h
  have get : ∀ (j : Nat) x, (backS own w0.s w.s).r[j]? = some (some x) → (j ∈ own ∧ w0.s.r[j]? = some (some x)) ∨ (j ∉ own ∧ w.s.r[j]? = some (some x)) := fun j x q => by
    have q : (backR w0.s.r w.s.r own)[j]? = some (some x) := q
    rw [backR_get hl] at q
    by_cases c : j ∈ own
    · rw [if_pos c] at q; exact .inl ⟨c, q⟩
    · rw [if_neg c] at q; exact .inr ⟨c, q⟩
  have ow' : ∀ j, W.ow { w with s := backS own w0.s w.s } j → w.ow j ∧ j ∉ own := fun j ⟨x, q⟩ => by
    rcases get j _ q with ⟨c, q⟩ | ⟨c, q⟩
    · exact (calm j c x q).elim
    · exact ⟨⟨x, q⟩, c⟩
  have O' : ∀ a, W.O { w with s := backS own w0.s w.s } a → w.O a := fun a h => by
    rcases h with h | ⟨j, h, q⟩
    · exact .inl h
    · exact .inr ⟨j, (ow' j h).1, q⟩
  have lenb : (backR w0.s.r w.s.r own).length = w.s.r.length := by
    clear O' ow' get calm hc R
    induction own with
    | nil => rfl
    | cons k ks ih =>
      show (match w0.s.r[k]? with | some x => (backR w0.s.r w.s.r ks).set k x | none => backR w0.s.r w.s.r ks).length = _
      split
      · rw [List.length_set]; exact ih
      · exact ih
  refine ⟨⟨R.ex, by show (backR w0.s.r w.s.r own).length = _; rw [lenb, R.len, wipe_length], fun j x q => ?_, fun j x q => ?_, R.cell, R.clen, fun a h => R.fr a (O' a h), R.nd, fun j k hj hk q => R.dis j k (ow' j hj).1 (ow' k hk).1 q, fun j hj => R.dic j (ow' j hj).1⟩,
    ⟨fun a o h _ => h, Sub.refl _, fun a o h => .inl h, fun a h => .inl (O' a h), Pre.refl _, fun _ h => h⟩⟩
  · rcases get j _ q with ⟨c, q⟩ | ⟨c, q⟩
    · obtain ⟨v, a1, a2⟩ := R0.slot j x q
      exact ⟨v, a1, a2.mono s p⟩
    · obtain ⟨v, a1, a2⟩ := R.slot j x q
      rw [wipe_get, if_neg c] at a1
      exact ⟨v, a1, a2⟩
  · rcases get j _ q with ⟨c, q⟩ | ⟨c, q⟩
    · exact (calm j c x q).elim
    · obtain ⟨vs, ds, a0, a1, a2, a3⟩ := R.own j x q
      rw [wipe_get, if_neg c] at a1
      exact ⟨vs, ds, a0, a1, a2, a3⟩
end
def tC2 (K : PySem.W.Frag) (C : Ctx) (t : Option T) : TT := fun σ H Q => ∃ w, Rep K w σ H ∧ Post K w σ H (evc C t w.s) fun b w' H' => Q b H'
section
variable {X : Cx} {C : Ctx}
theorem PTs.imp {e : List Expr} {t t' : TT} (h : PTs X e t) (q : ∀ σ H Q, t' σ H Q → t σ H Q) : PTs X e t' := ⟨fun pins s σ H Q I hw => h.run pins s σ H Q I (q σ H Q hw)⟩
theorem sc_nil : PTs X [] (tC2 X.K C none) := PTs.imp pts_nil fun σ H Q ⟨w, R, P⟩ => Post.here R P
theorem sc_one {e : Expr} {t : T} (h : PT X e (tB2 X.K C t)) : PTs X [e] (tC2 X.K C (some t)) := pts_one h
theorem ok_of {α : Type} {K : PySem.W.Frag} {w : W} {σ : L2.St} {H : Hp} {m : R α} {N : α → W → Hp → Prop} (h : Post K w σ H m N) : ∃ a s, m = .ok a s := by
  cases m with
  | ok a s => exact ⟨a, s, rfl⟩
  | exc _ _ _ => exact h.elim
  | bad => exact h.elim
theorem bind_ok_inv {α β : Type} {m : R α} {f : α → S → R β} {b : β} {s' : S} (h : m.bind f = .ok b s') : ∃ a s, m = .ok a s ∧ f a s = .ok b s' := by
  cases m with
  | ok a s => exact ⟨a, s, rfl, h⟩
  | exc _ _ _ => cases h
  | bad => cases h
theorem post_ok {α : Type} {K : PySem.W.Frag} {w : W} {σ : L2.St} {H : Hp} {m : R α} {a : α} {s' : S} {N : α → W → Hp → Prop} (e : m = .ok a s') (h : ∀ w' H', w'.s = s' → Rep K w' σ H' → Step w H w' H' → N a w' H') : Post K w σ H m N := by
  rw [e]; exact h
theorem lc_read {own : List Nat} {tg' : Tg} {sk : SK} {sa : List T} {cond : Option T} {elt' : T} (hsub : ∀ j ∈ slotsT tg', j ∈ own) {σ : L2.St} {H : Hp} {Q : VK}
    (h : tE X.K C (.lc own tg' sk sa cond elt') σ H Q) : tLc (tI X.K C sk sa) (gOf X.K tg') (tC2 X.K C cond) (tF X.K C elt') own σ H Q := by
  obtain ⟨w, R, P⟩ := h
  have P : Post X.K w σ H ((evs C sa w.s).bind fun ds s1 => (Lm.R.of (srcD sk ds) s1).bind fun xs s2 =>
      if calmS own s2 then
        (lcLoop own (fun d s => bindT tg' d false s) (evc C cond) (fun s => ev C elt' s) xs [] (wipeS own s2)).bind fun ys s3 => .ok (D.lst ys, true) (backS own s2 s3)
      else .bad) _ := P
  rw [← Lm.R.bind_assoc] at P
  refine ⟨w, R, (Post.bind P).imp fun xs w1 H1 R1 S1 P1 J ok => ?_⟩
  intro Da hDa
  by_cases hc : calmS own w1.s = true
  · simp only [if_pos hc] at P1
    obtain ⟨p, sF, hF⟩ := ok_of P1
    obtain ⟨ys, s3, hL, hE⟩ := bind_ok_inv hF
    rw [hL] at P1
    cases hE
    obtain ⟨R0, Sw⟩ := R1.wipe own
    have no0 : ¬ W.O { w1 with s := wipeS own w1.s } Da := R0.freeO hDa
    refine ⟨fun i m H => m = xs.length - i ∧ i ≤ xs.length ∧ ∃ w' acc vs, lcLoop own (fun d s => bindT tg' d false s) (evc C cond) (fun s => ev C elt' s) (xs.drop i) acc w'.s = .ok ys s3 ∧
      Rep X.K w' (wipe σ own) H ∧ Step w1 H1 w' H ∧ H Da = some (.lst vs) ∧ w'.F Da = none ∧ ¬ w'.O Da ∧ IsAll X.K w'.F w'.μ vs acc, ?_, ?_⟩
    · exact ⟨_, rfl, Nat.zero_le _, { w1 with s := wipeS own w1.s }, [], [], hL, R0.fresh hDa, Sw.side hDa, upd_same, R0.freeF hDa, no0, .nil⟩
    · rintro i m H2 ⟨rfl, hi, w', acc, vs, eL, R2, S2, hD, nF, nO, hv⟩
      have sub2 : Sub w1.F H2 := S2.sub.trans R2.ex
      by_cases hlt : i < xs.length
      · refine .inr ⟨ok.go i H2 sub2 hlt, fun H' => (xs.length - (i + 1)) = xs.length - (i + 1) ∧ i + 1 ≤ xs.length ∧ ∃ w' acc vs, lcLoop own (fun d s => bindT tg' d false s) (evc C cond) (fun s => ev C elt' s) (xs.drop (i + 1)) acc w'.s = .ok ys s3 ∧
          Rep X.K w' (wipe σ own) H' ∧ Step w1 H1 w' H' ∧ H' Da = some (.lst vs) ∧ w'.F Da = none ∧ ¬ w'.O Da ∧ IsAll X.K w'.F w'.μ vs acc, fun H' h => ⟨_, by omega, h⟩, fun x H3 y => ?_⟩
        obtain ⟨d, hd⟩ : ∃ d, xs[i]? = some d := ⟨_, List.getElem?_eq_getElem hlt⟩
        obtain ⟨w3, e3, R3, S3, i3⟩ := ok.yld i H2 x H3 w' _ R2 S2.sub S2.pre y d hd
        have dr : xs.drop i = d :: xs.drop (i + 1) := by
          rw [List.drop_eq_getElem_cons hlt]
          rw [List.getElem?_eq_getElem hlt] at hd
          cases hd; rfl
        rw [dr, ← e3] at eL
        obtain ⟨_, sA, eA, eL⟩ := bind_ok_inv (show (bindT tg' d false w3.s).bind _ = .ok ys s3 from eL)
        obtain ⟨b, sB, eB, eL⟩ := bind_ok_inv eL
        refine tg_read tg' eA R3 i3 fun w4 σ4 e4 R4 S4 o4 _ _ => ?_
        refine ⟨wipe_only o4 hsub (by rw [← R4.len, e4]; have := R3.len; rw [wipe_length] at this; rw [← this]; have q4 := R4.len; rw [e4] at q4
                                      have : ∀ (tg : Tg), True := fun _ => trivial
                                      exact (bindT_len tg' d false w3.s sA eA)), ?_⟩
        rw [← e4] at eB
        refine ⟨w4, R4, post_ok eB fun w5 H5 e5 R5 S5 => ?_⟩
        have st5 := ((S3.trans S4).trans S5)
        obtain ⟨hD5, nF5, nO5⟩ := st5.stay hD nF nO
        cases b with
        | true =>
          refine iteT ?_
          simp only [if_pos] at eL
          obtain ⟨p, sC, eC, eL⟩ := bind_ok_inv eL
          rw [← e5] at eC
          refine ⟨w5, R5, post_ok eC fun w6 H6 e6 R6 S6 v iv => ?_⟩
          obtain ⟨hD6, nF6, nO6⟩ := S6.stay hD5 nF5 nO5
          by_cases hl : acc.length < lim
          · rw [if_pos hl] at eL
            have st6 := st5.trans S6
            have hv6 := hv.mono st6.sub st6.pre
            obtain ⟨R7, S7⟩ := R6.wipe own
            have w4e : wipe σ4 own = wipe σ own := wipe_only o4 hsub (by
              rw [← R4.len, e4]; have := R3.len; rw [wipe_length] at this; rw [← this]; exact (bindT_len tg' d false w3.s sA eA))
            rw [w4e] at R7
            refine ⟨vs, hD6, by rw [hv.length]; exact lim_lt hl, rfl, by omega, { w6 with s := wipeS own w6.s }, acc ++ [p.1], vs ++ [v], by rw [← e6] at eL; exact eL, R7.side nF6 (fun z => nO6 ?_), ((S2.trans st6).trans S7).side hDa, upd_same, nF6, fun z => nO6 ?_, hv6.append (.cons iv .nil)⟩
            · exact (S7.newO _ z).elim id fun q => by rw [hD6] at q; cases q
            · exact (S7.newO _ z).elim id fun q => by rw [hD6] at q; cases q
          · rw [if_neg hl] at eL; cases eL
        | false =>
          refine iteF ?_
          simp only [Bool.false_eq_true, if_false] at eL
          obtain ⟨R7, S7⟩ := R5.wipe own
          have w4e : wipe σ4 own = wipe σ own := wipe_only o4 hsub (by
            rw [← R4.len, e4]; have := R3.len; rw [wipe_length] at this; rw [← this]; exact (bindT_len tg' d false w3.s sA eA))
          rw [w4e] at R7
          refine ⟨rfl, by omega, { w5 with s := wipeS own w5.s }, acc, vs, by rw [← e5] at eL; exact eL, R7, (S2.trans st5).trans S7, hD5, nF5, fun z => nO5 ?_, hv.mono st5.sub st5.pre⟩
          exact (S7.newO _ z).elim id fun q => by rw [hD5] at q; cases q
      · have e : i = xs.length := by omega
        subst e
        refine .inl ⟨ok.stop H2 sub2, ?_⟩
        rw [List.drop_length] at eL
        have eL : Lm.R.ok acc w'.s = .ok ys s3 := eL
        cases eL
        obtain ⟨RF, SF⟩ := R1.back hc R2 S2.sub S2.pre
        refine P1 _ H2 rfl RF (S2.trans SF) (.ref Da) ⟨Da, vs, ys, rfl, rfl, nF, fun z => nO ?_, S1.live _ hDa, hD, hv⟩
        exact (SF.newO _ z).elim id fun q => by rw [hD] at q; cases q
  · simp only [if_neg hc] at P1; exact P1.elim
end
end Lm
set_option Elab.async false
set_option linter.all false
set_option maxRecDepth 100000
set_option maxHeartbeats 2000000
/-! The interpreter is sound, 10: statements. -/
namespace Lm
open PySem L2

def PostS (K : PySem.W.Frag) (w : W) (H : Hp) (m : R Ctl) (N : Ctl → W → L2.St → Hp → Prop) : Prop := match m with
  | .ok c s' => ∀ w' σ' H', w'.s = s' → Rep K w' σ' H' → Step w H w' H' → N c w' σ' H'
  | _ => False
section
variable {α : Type} {K : PySem.W.Frag} {w w1 : W} {σ : L2.St} {H H1 : Hp}
theorem PostS.bind {m : R Ctl} {f : Ctl → S → R Ctl} {N : Ctl → W → L2.St → Hp → Prop} (h : PostS K w H (m.bind f) N) : PostS K w H m fun a w1 σ1 H1 => PostS K w1 H1 (f a w1.s) N := by
  cases m with
  | ok a s' =>
    intro w1 σ1 H1 e R1 S1
    subst e
    have h : PostS K w H (f a w1.s) N := h
    revert h
    show PostS K w H (f a w1.s) N → PostS K w1 H1 (f a w1.s) N
    cases f a w1.s with
    | ok b s2 => exact fun h w2 σ2 H2 e2 R2 S2 => h w2 σ2 H2 e2 R2 (S1.trans S2)
    | exc c d s2 => exact fun h => h.elim
    | bad => exact fun h => h.elim
  | exc c d s' => exact h.elim
  | bad => exact h.elim
/-- an expression ahead -/
theorem PostS.ofE {m : R α} {f : α → S → R Ctl} {N : Ctl → W → L2.St → Hp → Prop} (h : PostS K w H (m.bind f) N) : Post K w σ H m fun a w1 H1 => PostS K w1 H1 (f a w1.s) N := by
  cases m with
  | ok a s' =>
    intro w1 H1 e R1 S1
    subst e
    have h : PostS K w H (f a w1.s) N := h
    revert h
    show PostS K w H (f a w1.s) N → PostS K w1 H1 (f a w1.s) N
    cases f a w1.s with
    | ok b s2 => exact fun h w2 σ2 H2 e2 R2 S2 => h w2 σ2 H2 e2 R2 (S1.trans S2)
    | exc c d s2 => exact fun h => h.elim
    | bad => exact fun h => h.elim
  | exc c d s' => exact h.elim
  | bad => exact h.elim
theorem PostS.imp {m : R Ctl} {N N' : Ctl → W → L2.St → Hp → Prop} (h : PostS K w H m N) (q : ∀ a w' σ' H', Rep K w' σ' H' → Step w H w' H' → N a w' σ' H' → N' a w' σ' H') : PostS K w H m N' := by
  cases m with
  | ok a s' => exact fun w' σ' H' e R S => q a w' σ' H' R S (h w' σ' H' e R S)
  | exc c d s' => exact h.elim
  | bad => exact h.elim
theorem okS_of {m : R Ctl} {N : Ctl → W → L2.St → Hp → Prop} (h : PostS K w H m N) : ∃ a s, m = .ok a s := by
  cases m with
  | ok a s => exact ⟨a, s, rfl⟩
  | exc _ _ _ => exact h.elim
  | bad => exact h.elim
end
/-- what has come about since He -/
def Since (He : Hp) (w : W) (H : Hp) : Prop := (∀ i, w.ow i → He (w.β i) = none) ∧ ∀ a, H a = none → He a = none
theorem Since.step {K : PySem.W.Frag} {He H H' : Hp} {w w' : W} {σ' : L2.St} (h : Since He w H) (S : Step w H w' H') (R' : Rep K w' σ' H') : Since He w' H' := by
  refine ⟨fun i hi => ?_, fun a e => h.2 a (S.live a e)⟩
  rcases S.newO _ (.inr ⟨i, hi, rfl⟩) with (z | ⟨j, hj, q⟩) | z
  · refine (R'.dic i hi ?_).elim
    obtain ⟨k, hk⟩ := List.getElem?_of_mem z
    exact List.mem_of_getElem? (S.pre k _ hk)
  · rw [← q]; exact h.1 j hj
  · exact h.2 _ z
def endN (K : PySem.W.Frag) (He : Hp) (D : Ends) : Ctl → W → L2.St → Hp → Prop
  | .nx, _, σ', H' => D.nx σ' H'
  | .ret d o, w', _, H' => ∀ v, w'.val K He H' v (d, o) → D.rt v H'
  | .brk, _, σ', H' => D.bk σ' H'
  | .cnt, _, σ', H' => D.ct σ' H'
def tS (K : PySem.W.Frag) (C : Ctx) (He : Hp) (q : Q) : TS := fun D σ H => ∃ w, Rep K w σ H ∧ Since He w H ∧ PostS K w H (ex C q w.s) (endN K He D)
def tSs (K : PySem.W.Frag) (C : Ctx) (He : Hp) (qs : List Q) : TS := fun D σ H => ∃ w, Rep K w σ H ∧ Since He w H ∧ PostS K w H (exs C qs w.s) (endN K He D)
section
variable {X : Cx}
theorem PS.imp {e : Stmt} {t t' : TS} (h : PS X e t) (q : ∀ D σ H, t' D σ H → t D σ H) : PS X e t' := ⟨fun pins s σ H D I hw => h.run pins s σ H D I (q D σ H hw)⟩
theorem PSs.imp {e : List Stmt} {t t' : TS} (h : PSs X e t) (q : ∀ D σ H, t' D σ H → t D σ H) : PSs X e t' := ⟨fun pins s σ H D I hw => h.run pins s σ H D I (q D σ H hw)⟩
end
section
variable {X : Cx} {C : Ctx} {He : Hp} {e e2 : Expr} {a b t : T} {q : Q} {qs : List Q} {st : Stmt} {sts : List Stmt} {pos p : Pos} {i : Nat}
theorem ss_nil : PSs X [] (tSs X.K C He []) := PSs.imp pss_nil fun D σ H ⟨w, R, z, P⟩ => P w σ H rfl R (Step.refl w H)
theorem ss_cons (h : PS X st (tS X.K C He q)) (hr : PSs X sts (tSs X.K C He qs)) : PSs X (st :: sts) (tSs X.K C He (q :: qs)) := PSs.imp (pss_cons h hr) fun D σ H ⟨w, R, z, P⟩ => by
  refine ⟨w, R, z, (PostS.bind P).imp fun c w1 σ1 H1 R1 S1 P1 => ?_⟩
  cases c with
  | nx => exact ⟨w1, R1, z.step S1 R1, P1⟩
  | ret d o => exact P1 w1 σ1 H1 rfl R1 (Step.refl w1 H1)
  | brk => exact P1 w1 σ1 H1 rfl R1 (Step.refl w1 H1)
  | cnt => exact P1 w1 σ1 H1 rfl R1 (Step.refl w1 H1)
/-- an assignment's reading -/
theorem asg_read {D : Ends} {σ : L2.St} {H : Hp} (h : tS X.K C He (.asg (.nm i) t) D σ H) : tE X.K C t σ H fun x H1 => D.nx (σ.set i (some x)) H1 := by
  obtain ⟨w, R, z, P⟩ := h
  obtain ⟨c, s', hq⟩ := okS_of P
  obtain ⟨p, s1, h1, h2⟩ := bind_ok_inv (show (ev C t w.s).bind _ = .ok c s' from hq)
  cases h2
  rw [hq] at P
  refine ⟨w, R, post_ok h1 fun w1 H1 e1 R1 S1 v hv => ?_⟩
  obtain ⟨w2, e2, R2, S2⟩ := R1.putV S1 (i := i) hv
  exact P w2 _ H1 (by rw [e2, e1]) R2 S2
theorem ss_asg {x : Str} (hN : X.N.Nodup) (hi : X.N[i]? = some x) (hx : L2.Loc X.env.scope x) (hf : X.fn x = true ∨ X.env.scope.names.lookup x = some .local) (he : PE X e (tE X.K C t))
    (hw : swapsWith e (some (.Name x p)) pos.line X.env = pure false) (h2 : swappedStores [.Name x p] e X.env = pure none) : PS X (.Assign [.Name x p] e pos) (tS X.K C He (.asg (.nm i) t)) :=
  PS.imp (ps_asg he (pg_name hN hi hx hf) hw h2 rfl) fun D σ H h => asg_read h
/-- a list that others are to change, too -/
theorem cel_read {D : Ends} {σ : L2.St} {H : Hp} (h : tS X.K C He (.cel i t) D σ H) : tE X.K C t σ H fun x H1 => D.nx (σ.set i (some x)) H1 := by
  obtain ⟨w, R, z, P⟩ := h
  obtain ⟨c, s', hq⟩ := okS_of P
  obtain ⟨p, s1, h1, h2⟩ := bind_ok_inv (show (ev C t w.s).bind _ = .ok c s' from hq)
  obtain ⟨d, o⟩ := p
  cases o with
  | false => cases d <;> cases h2
  | true =>
    cases d with
    | lst ds =>
      cases h2
      rw [hq] at P
      refine ⟨w, R, post_ok h1 fun w1 H1 e1 R1 S1 v hv => ?_⟩
      obtain ⟨a, vs, ds', rfl, q, nf, no, hn, ha, hvs⟩ := hv
      cases q
      have pre : Pre w1.μ (w1.μ ++ [a]) := fun k b h => by rw [List.getElem?_append_left (List.getElem?_eq_some_iff.mp h).1]; exact h
      have lk : (w1.μ ++ [a])[w1.s.g.length]? = some a := by rw [← R1.clen, List.getElem?_append_right (Nat.le_refl _)]; simp
      have ow' : ∀ j, W.ow ⟨w1.F, w1.μ ++ [a], w1.β, wr i (.obj w1.s.g.length, false) { w1.s with g := w1.s.g ++ [.lst ds] }⟩ j → w1.ow j ∧ j ≠ i := fun j ⟨x, q⟩ => by
        rcases wr_get q with ⟨_, q, _⟩ | ⟨c, q⟩
        · cases q
        · exact ⟨⟨x, q⟩, c⟩
      have O' : ∀ b, W.O ⟨w1.F, w1.μ ++ [a], w1.β, wr i (.obj w1.s.g.length, false) { w1.s with g := w1.s.g ++ [.lst ds] }⟩ b → b = a ∨ w1.O b := fun b h => by
        rcases h with h | ⟨j, h, q⟩
        · rcases List.mem_append.mp h with h | h
          · exact .inr (.inl h)
          · exact .inl (List.mem_singleton.mp h)
        · exact .inr (.inr ⟨j, (ow' j h).1, q⟩)
      refine P ⟨w1.F, w1.μ ++ [a], w1.β, wr i (.obj w1.s.g.length, false) { w1.s with g := w1.s.g ++ [.lst ds] }⟩ _ H1 (by rw [e1]) ⟨R1.ex, by show (w1.s.r.set _ _).length = _; rw [List.length_set, List.length_set]; exact R1.len, fun j x q => ?_, fun j x q => ?_, fun k c q => ?_, ?_, fun b h => ?_, ?_, fun j k hj hk q => R1.dis j k (ow' j hj).1 (ow' k hk).1 q, fun j hj hm => ?_⟩ ⟨S1.keep, S1.sub, S1.newF, fun b h => ?_, S1.pre.trans pre, S1.live⟩
      · rcases wr_get q with ⟨rfl, q, hlt⟩ | ⟨c, q⟩
        · cases q
          exact ⟨_, by rw [List.getElem?_set_self (by rw [← R1.len]; exact hlt)], .obj lk⟩
        · obtain ⟨u, a1, a2⟩ := R1.slot j x q
          exact ⟨u, by rw [List.getElem?_set_ne (fun z => c z.symm)]; exact a1, a2.mono (Sub.refl _) pre⟩
      · rcases wr_get q with ⟨rfl, q, hlt⟩ | ⟨c, q⟩
        · cases q
        · obtain ⟨vs, ds, a0, a1, a2, a3⟩ := R1.own j x q
          exact ⟨vs, ds, a0, by rw [List.getElem?_set_ne (fun z => c z.symm)]; exact a1, a2, a3.mono (Sub.refl _) pre⟩
      · have q : (w1.s.g ++ [.lst ds])[k]? = some c := q
        by_cases hk : k < w1.s.g.length
        · rw [List.getElem?_append_left hk] at q
          obtain ⟨b, b1, b2⟩ := R1.cell k c q
          refine ⟨b, pre k b b1, ?_⟩
          revert b2
          cases c with
          | lst ds => exact fun ⟨vs, q, r⟩ => ⟨vs, q, r.mono (Sub.refl _) pre⟩
        · rw [List.getElem?_append_right (by omega)] at q
          have hk0 : k = w1.s.g.length := by
            by_cases e : k - w1.s.g.length = 0
            · omega
            · rw [List.getElem?_eq_none (by simp; omega)] at q; cases q
          subst hk0
          simp at q
          subst q
          exact ⟨a, lk, vs, ha, hvs.mono (Sub.refl _) pre⟩
      · show (w1.μ ++ [a]).length = (w1.s.g ++ [Cell.lst ds]).length
        rw [List.length_append, List.length_append, R1.clen]; rfl
      · rcases O' b h with rfl | h
        · exact nf
        · exact R1.fr b h
      · refine List.nodup_append.mpr ⟨R1.nd, by simp, fun b hb c hc => ?_⟩
        have := List.mem_singleton.mp hc
        subst this
        exact fun e => no (.inl (by rw [← e]; exact hb))
      · rcases List.mem_append.mp hm with h | h
        · exact R1.dic j (ow' j hj).1 h
        · exact no (.inr ⟨j, (ow' j hj).1, List.mem_singleton.mp h⟩)
      · rcases O' b h with rfl | h
        · exact .inr hn
        · exact S1.newO b h
    | _ => cases h2
theorem ss_cel {x : Str} (hN : X.N.Nodup) (hi : X.N[i]? = some x) (hx : L2.Loc X.env.scope x) (hf : X.fn x = true ∨ X.env.scope.names.lookup x = some .local) (he : PE X e (tE X.K C t))
    (hw : swapsWith e (some (.Name x p)) pos.line X.env = pure false) (h2 : swappedStores [.Name x p] e X.env = pure none) : PS X (.Assign [.Name x p] e pos) (tS X.K C He (.cel i t)) :=
  PS.imp (ps_asg he (pg_name hN hi hx hf) hw h2 rfl) fun D σ H h => cel_read h
theorem ss_asgT {tg : Expr} {tg' : Tg} {ts : List Tg} (ht : tg' = .tup ts) (hg : PG X tg (gOf X.K tg')) (he : PE X e (tE X.K C t)) (hw : swapsWithSole [tg] e pos.line X.env = pure false) (h2 : swappedStores [tg] e X.env = pure none)
    (h3 : List.map (fun x => x.snd) (assignEach [tg] X.env) = [assign tg X.env]) : PS X (.Assign [tg] e pos) (tS X.K C He (.asg tg' t)) :=
  PS.imp (ps_asg (PE.fz he) hg hw h2 h3) fun D σ H ⟨w, R, z, P⟩ => by
    obtain ⟨c, s', hq⟩ := okS_of P
    obtain ⟨p, s1, h1, h2⟩ := bind_ok_inv (show (ev C t w.s).bind _ = .ok c s' from hq)
    obtain ⟨_, s2, h3, h4⟩ := bind_ok_inv h2
    cases h4
    rw [hq] at P
    refine ⟨w, R, post_ok h1 fun w1 H1 e1 R1 S1 v hv => ?_⟩
    have h3' : bindT tg' p.1 false w1.s = .ok () s' := by
      rw [e1]; subst ht
      revert h3
      cases p.1 <;> exact id
    exact tg_read tg' h3' R1 hv fun w2 σ2 e2 R2 S2 _ _ _ => P w2 σ2 H1 e2 R2 (S1.trans S2)
theorem ss_if (hc : PT X e (tB2 X.K C t)) (ha : PSs X sts (tSs X.K C He qs)) {sts2 : List Stmt} {qs2 : List Q} (hb : PSs X sts2 (tSs X.K C He qs2)) : PS X (.If e sts sts2 pos) (tS X.K C He (.if_ t qs qs2)) := PS.imp (ps_if hc ha hb) fun D σ H ⟨w, R, z, P⟩ => by
  have P : PostS X.K w H ((ev C t w.s).bind fun x s1 => (Lm.R.of (asB x.1) s1).bind fun k s2 => if k then exs C qs s2 else exs C qs2 s2) _ := P
  rw [← Lm.R.bind_assoc] at P
  refine ⟨w, R, (PostS.ofE P).imp fun k w1 H1 R1 S1 P1 => ?_⟩
  cases k with
  | true => exact iteT ⟨w1, R1, z.step S1 R1, P1⟩
  | false => exact iteF ⟨w1, R1, z.step S1 R1, P1⟩
theorem ss_ret (he : PE X e (tE X.K C t)) (ht : ∀ i, t ≠ .v i) : PS X (.Return (some e) pos) (tS X.K C He (.ret t)) := PS.imp (ps_ret he) fun D σ H ⟨w, R, z, P⟩ => by
  have P : PostS X.K w H ((ev C t w.s).bind fun p s1 => .ok (.ret p.1 p.2) s1) (endN X.K He D) := by
    have e : ex C (.ret t) w.s = (ev C t w.s).bind fun p s1 => .ok (.ret p.1 p.2) s1 := by
      cases t <;> first | rfl | exact absurd rfl (ht _)
    rw [e] at P; exact P
  refine ⟨w, R, (PostS.ofE P).imp fun p w1 H1 R1 S1 P1 v hv => ?_⟩
  exact P1 w1 σ H1 rfl R1 (Step.refl w1 H1) v (val_start z.2 hv)
theorem ss_retv (he : PE X e (tVar i)) : PS X (.Return (some e) pos) (tS X.K C He (.ret (.v i))) := PS.imp (ps_ret he) fun D σ H ⟨w, R, z, P⟩ => by
  have P : PostS X.K w H (match w.s.r[i]? with
      | some (some p) => .ok (.ret p.1 p.2) { w.s with r := w.s.r.set i none }
      | _ => .bad) _ := P
  cases q : w.s.r[i]? with
  | none => rw [q] at P; exact P.elim
  | some x =>
    cases x with
    | none => rw [q] at P; exact P.elim
    | some p =>
      rw [q] at P
      obtain ⟨d, o⟩ := p
      obtain ⟨Rw, Sw⟩ := R.wipe [i]
      have P2 := P { w with s := wipeS [i] w.s } _ H rfl Rw Sw
      cases o with
      | false =>
        obtain ⟨v, h1, h2⟩ := R.slot i d q
        exact ⟨v, h1, P2 v h2⟩
      | true =>
        obtain ⟨vs, ds, rfl, h1, h2, h3⟩ := R.own i d q
        have ow : w.ow i := ⟨_, q⟩
        refine ⟨_, h1, P2 _ ⟨w.β i, vs, ds, rfl, rfl, R.fr _ (.inr ⟨i, ow, rfl⟩), fun zz => ?_, z.1 i ow, h2, h3⟩⟩
        rcases zz with zz | ⟨j, ⟨x, hj⟩, qq⟩
        · exact R.dic i ow zz
        · obtain ⟨hj, hn⟩ := wipe_ow (w := w) hj
          exact hn (by rw [R.dis j i ⟨x, hj⟩ ow qq]; exact List.mem_singleton.mpr rfl)
theorem ss_retN : PS X (.Return none pos) (tS X.K C He .retN) := PS.imp ps_retN fun D σ H ⟨w, R, z, P⟩ => P w σ H rfl R (Step.refl w H) .non .non
theorem ss_expr (he : PE X e (tE X.K C t)) (hs : swapsWith e none pos.line X.env = pure false) : PS X (.Expr e pos) (tS X.K C He (.expr t)) := PS.imp (ps_expr (PE.fz he) hs) fun D σ H ⟨w, R, z, P⟩ => by
  refine tF_of R (PostS.ofE P) fun p w1 H1 v R1 S1 P1 i1 => ?_
  exact P1 w1 σ H1 rfl R1 (Step.refl w1 H1)
theorem ss_pass : PS X (.Pass pos) (tS X.K C He .pass_) := PS.imp ps_pass fun D σ H ⟨w, R, z, P⟩ => P w σ H rfl R (Step.refl w H)
theorem ss_brk : PS X (.Break pos) (tS X.K C He .brk) := PS.imp ps_break fun D σ H ⟨w, R, z, P⟩ => P w σ H rfl R (Step.refl w H)
theorem ss_cnt : PS X (.Continue pos) (tS X.K C He .cnt) := PS.imp ps_continue fun D σ H ⟨w, R, z, P⟩ => P w σ H rfl R (Step.refl w H)
/-! ### lists changed in place -/
theorem ss_app {o : Expr} {apos p2 : Pos} (ho : PE X o (tVar i)) (he : PE X e (tE X.K C t)) (hst : noStar e = true) (hb : noSuper o = true) (hl : (apos.endLine == p.line) = true) :
    PS X (.Expr (.Call (.Attribute o "append" apos) [e] [] p) p2) (tS X.K C He (.app i t)) :=
  PS.imp (ps_expr (pe_bm PySem.F.plainAttrs_list PySem.F.slot_list_append PySem.F.type_list_append mt_append ho (pa_cons (PE.fz he) pa_nil (star_ok hst)) (base_ok hb) (by rw [star_ok hst]; rfl) hl (star_ok hst) rfl) rfl) fun D σ H ⟨w, R, z, P⟩ => by
    have P : PostS X.K w H (match getL i w.s with
      | none => .bad
      | some _ => (ev C t w.s).bind fun x s1 => match getL i s1 with
        | some xs => if xs.length < lim then .ok .nx (putL i (xs ++ [x.1]) s1) else .bad
        | none => .bad) _ := P
    cases g0 : getL i w.s with
    | none => rw [g0] at P; exact P.elim
    | some xs0 =>
      rw [g0] at P
      obtain ⟨a0, vs0, h1, h2, _⟩ := R.getL g0
      refine ⟨_, h1, tyV_l h2, ?_⟩
      refine tF_of R (PostS.ofE P) fun x w1 H1 v R1 S1 P1 i1 => ?_
      cases g1 : getL i w1.s with
      | none => simp only [g1] at P1; exact P1.elim
      | some xs =>
        simp only [g1] at P1
        obtain ⟨a1, vs, q1, q2, q3, _, q4⟩ := R1.getL g1
        rw [h1] at q1; cases q1
        by_cases hl : xs.length < lim
        · simp only [if_pos hl] at P1
          obtain ⟨w', e1, _, _, R', S'⟩ := q4 (vs ++ [v]) (xs ++ [x.1]) (q3.append (.cons i1 .nil))
          exact ⟨a0, vs, v, rfl, rfl, q2, by rw [q3.length]; exact lim_lt hl, P1 w' σ _ e1 R' S'⟩
        · simp only [if_neg hl] at P1; exact P1.elim
theorem ss_clr {o : Expr} {apos p2 : Pos} (ho : PE X o (tVar i)) (hb : noSuper o = true) (hl : (apos.endLine == p.line) = true) :
    PS X (.Expr (.Call (.Attribute o "clear" apos) [] [] p) p2) (tS X.K C He (.clr i)) :=
  PS.imp (ps_expr (pe_bm0 PySem.F.plainAttrs_list PySem.F.slot_list_clear PySem.F.type_list_clear mt_clear ho (base_ok hb) hl) rfl) fun D σ H ⟨w, R, z, P⟩ => by
    have P : PostS X.K w H (match getL i w.s with
      | some _ => .ok .nx (putL i [] w.s)
      | none => .bad) _ := P
    cases g0 : getL i w.s with
    | none => rw [g0] at P; exact P.elim
    | some xs0 =>
      rw [g0] at P
      obtain ⟨a0, vs0, h1, h2, _, _, q4⟩ := R.getL g0
      obtain ⟨w', e1, _, _, R', S'⟩ := q4 [] [] .nil
      exact ⟨_, h1, tyV_l h2, a0, vs0, rfl, rfl, h2, P w' σ _ e1 R' S'⟩
theorem ss_set {o k : Expr} {spos : Pos} {tk : T} (ho : PE X o (tVar i)) (hk : PE X k (tE X.K C tk)) (he : PE X e (tE X.K C t)) (hw : swapsWithSole [.Subscript o k spos] e pos.line X.env = pure false) (h2 : swappedStores [.Subscript o k spos] e X.env = pure none)
    (ha : ∀ v, assign (.Subscript o k spos) X.env v = (do
      let ov ← holding [v] (eval o X.env)
      let iv ← holding [v, ov] (eval k X.env)
      standAt spos
      holding [v, ov, iv] (setItem ov iv v)
      release [v, ov, iv] [])) : PS X (.Assign [.Subscript o k spos] e pos) (tS X.K C He (.set i tk t)) :=
  PS.imp (ps_asg (PE.fz he) (pg_sub ho (PE.fz hk) set_list ha) hw h2 rfl) fun D σ H ⟨w, R, z, P⟩ => by
    refine tF_of R (PostS.ofE (show PostS X.K w H ((ev C t w.s).bind fun x s1 => match getL i s1 with
      | none => .bad
      | some _ => (ev C tk s1).bind fun y s2 => match y.1, getL i s2 with
        | .int k, some xs => match ixOf xs.length k with
          | some j => .ok .nx (putL i (xs.set j x.1) s2)
          | none => .bad
        | _, _ => .bad) _ from P)) fun x w1 H1 v R1 S1 P1 i1 => ?_
    cases g0 : getL i w1.s with
    | none => simp only [g0] at P1; exact P1.elim
    | some xs0 =>
      simp only [g0] at P1
      obtain ⟨a0, vs0, h1, h2, _⟩ := R1.getL g0
      refine ⟨_, h1, ?_⟩
      refine tF_of R1 (PostS.ofE P1) fun y w2 H2 u R2 S2 P2 i2 => ?_
      obtain ⟨y, oy⟩ := y
      cases i2 with
      | int k =>
        cases g1 : getL i w2.s with
        | none => simp only [g1] at P2; exact P2.elim
        | some xs =>
          simp only [g1] at P2
          obtain ⟨a1, vs, q1, q2, q3, _, q4⟩ := R2.getL g1
          rw [h1] at q1; cases q1
          cases hj : ixOf xs.length k with
          | none => simp only [hj] at P2; exact P2.elim
          | some j =>
            simp only [hj] at P2
            obtain ⟨w', e1, _, _, R', S'⟩ := q4 (vs.set j v) (xs.set j x.1) (q3.set j (i1.mono S2.sub S2.pre))
            exact ⟨a0, vs, k, j, rfl, rfl, q2, by rw [q3.length]; exact hj, P2 w' σ _ e1 R' S'⟩
      | _ => exact P2.elim
theorem ss_aug {x : Str} (hN : X.N.Nodup) (hi : X.N[i]? = some x) (hx : L2.Loc X.env.scope x) (hf : X.fn x = true ∨ X.env.scope.names.lookup x = some .local) (he : PE X e (tE X.K C t)) : PS X (.AugAssign (.Name x p) .Add e pos) (tS X.K C He (.aug i .add t)) := by
  have hp : PIp X .Add (fun x y H Q => (∃ i j, x = V.int i ∧ y = V.int j ∧ Q (.int (i + j)) H) ∨ ∃ i j, x = V.str i ∧ y = V.str j ∧ i.length + j.length ≤ sizeLine ∧ Q (.str (i ++ j)) H) := fun pins s σ H x y v u Q I rx ry h => by
    rcases h with h | h
    · exact ip_add pins s σ H x y v u Q I rx ry h
    · exact iop_add_str pins s σ H x y v u Q I rx ry h
  refine PS.imp (ps_aug hN hi hx (PE.fz he) hp hf) fun D σ H ⟨w, R, z, P⟩ => ?_
  have P : PostS X.K w H ((Lm.rd i w.s).bind fun x s1 => (ev C t s1).bind fun y s2 => augK i .add x y.1 s2) _ := P
  unfold Lm.rd at P
  cases q : w.s.r[i]? with
  | none => rw [q] at P; exact P.elim
  | some x =>
    cases x with
    | none => rw [q] at P; exact P.elim
    | some p =>
      rw [q] at P
      obtain ⟨d, o⟩ := p
      have P : PostS X.K w H ((ev C t w.s).bind fun y s2 => augK i .add d y.1 s2) (endN X.K He D) := P
      cases o with
      | true =>
        obtain ⟨_, ds, e0, _⟩ := R.own i d q
        subst e0
        obtain ⟨c, s', hq⟩ := okS_of P
        obtain ⟨y, s1, _, h2⟩ := bind_ok_inv (show (ev C t w.s).bind (fun y s2 => augK i .add (.lst ds) y.1 s2) = .ok c s' from hq)
        cases h2
      | false =>
        obtain ⟨v, h1, h2⟩ := R.slot i d q
        refine ⟨v, h1, ?_⟩
        refine tF_of R (PostS.ofE P) fun y w1 H1 u R1 S1 P1 i2 => ?_
        obtain ⟨y, oy⟩ := y
        have i1 := h2.mono S1.sub S1.pre
        cases i1 with
        | int m => cases i2 with
          | int n =>
            have P1 : PostS X.K w1 H1 (.ok .nx (wr i (.int (m + n), false) w1.s)) (endN X.K He D) := P1
            obtain ⟨a, b⟩ := R1.put (i := i) (Is.int (m + n))
            exact .inl ⟨m, n, rfl, rfl, P1 _ _ H1 rfl a b⟩
          | _ => exact P1.elim
        | str m => cases i2 with
          | str n =>
            have P1 : PostS X.K w1 H1 ((Lm.R.of (if m.cps.toList.length + n.cps.toList.length ≤ lim then some (Lm.D.str (m.cps.toList ++ n.cps.toList), false) else none) w1.s).bind fun p s3 => .ok .nx (wr i (p.1, false) s3)) (endN X.K He D) := P1
            by_cases hl : m.cps.toList.length + n.cps.toList.length ≤ lim
            · rw [if_pos hl] at P1
              have ee : (m ++ n).cps.toList = m.cps.toList ++ n.cps.toList := Array.toList_append
              have is : Is X.K w1.F w1.μ (.str (m ++ n)) (.str (m.cps.toList ++ n.cps.toList)) := by rw [← ee]; exact .str _
              obtain ⟨a, b⟩ := R1.put (i := i) is
              exact .inr ⟨m, n, rfl, rfl, by rw [len_str, len_str]; exact lim_le hl, P1 _ _ H1 rfl a b⟩
            · rw [if_neg hl] at P1; exact P1.elim
          | _ => exact P1.elim
        | _ => first | exact P1.elim | (cases i2 <;> exact P1.elim)
/-! ### loops -/
theorem ss_for {tg iter : Expr} {tg' : Tg} {sk : SK} {sa : List T} (hp : PassesOwn (model X.prog X.w) X.A X.env X.xe) (hc : X.calm = true) (hi : PI X tg iter (tI X.K C sk sa)) (hg : PG X tg (gOf X.K tg')) (hb : PSs X sts (tSs X.K C He qs)) (hs : ∀ x, foldedSetIterable iter X.env x = pure x) :
    PS X (.For tg iter sts [] pos) (tS X.K C He (.for_ tg' sk sa qs)) := PS.imp (ps_for hp hc hi hg hb hs) fun D σ H ⟨w, R, z, P⟩ => by
  have P : PostS X.K w H ((evs C sa w.s).bind fun ds s1 => (Lm.R.of (srcD sk ds) s1).bind fun xs s2 => forLoop (fun d s => bindT tg' d false s) (fun s => exs C qs s) xs s2) _ := P
  rw [← Lm.R.bind_assoc] at P
  refine ⟨w, R, (PostS.ofE P).imp fun xs w1 H1 R1 S1 P1 J ok => ?_⟩
  obtain ⟨c, sF, hF⟩ := okS_of P1
  rw [hF] at P1
  have z1 := z.step S1 R1
  refine ⟨fun i m σ H => m = xs.length - i ∧ i ≤ xs.length ∧ ∃ w', forLoop (fun d s => bindT tg' d false s) (fun s => exs C qs s) (xs.drop i) w'.s = .ok c sF ∧ Rep X.K w' σ H ∧ Step w1 H1 w' H, ⟨_, rfl, Nat.zero_le _, w1, by rw [List.drop_zero]; exact hF, R1, Step.refl w1 H1⟩, ?_⟩
  rintro i m σ2 H2 ⟨rfl, hi, w', eL, R2, S2⟩
  have sub2 : Sub w1.F H2 := S2.sub.trans R2.ex
  by_cases hlt : i < xs.length
  · refine .inr ⟨ok.go i H2 sub2 hlt, fun σ H => i + 1 ≤ xs.length ∧ ∃ w', forLoop (fun d s => bindT tg' d false s) (fun s => exs C qs s) (xs.drop (i + 1)) w'.s = .ok c sF ∧ Rep X.K w' σ H ∧ Step w1 H1 w' H, fun σ' H' h => ⟨_, by omega, rfl, h⟩, fun x H3 y => ?_⟩
    obtain ⟨d, hd⟩ : ∃ d, xs[i]? = some d := ⟨_, List.getElem?_eq_getElem hlt⟩
    obtain ⟨w3, e3, R3, S3, i3⟩ := ok.yld i H2 x H3 w' _ R2 S2.sub S2.pre y d hd
    have dr : xs.drop i = d :: xs.drop (i + 1) := by
      rw [List.drop_eq_getElem_cons hlt]
      rw [List.getElem?_eq_getElem hlt] at hd
      cases hd; rfl
    rw [dr, ← e3] at eL
    obtain ⟨_, sA, eA, eL⟩ := bind_ok_inv (show (bindT tg' d false w3.s).bind _ = .ok c sF from eL)
    obtain ⟨k, sB, eB, eL⟩ := bind_ok_inv eL
    refine tg_read tg' eA R3 i3 fun w4 σ4 e4 R4 S4 o4 _ _ => ?_
    rw [← e4] at eB
    have eB : exs C qs w4.s = .ok k sB := eB
    have z4 := (z1.step S2 R2).step (S3.trans S4) R4
    refine ⟨w4, R4, z4, ?_⟩
    rw [eB]
    intro w5 σ5 H5 e5 R5 S5
    have S15 := ((S2.trans S3).trans S4).trans S5
    cases k with
    | nx => exact ⟨by omega, w5, by rw [e5]; exact eL, R5, S15⟩
    | cnt => exact ⟨by omega, w5, by rw [e5]; exact eL, R5, S15⟩
    | brk =>
      cases eL
      exact P1 w5 σ5 H5 e5 R5 S15
    | ret d o =>
      cases eL
      exact P1 w5 σ5 H5 e5 R5 S15
  · have e : i = xs.length := by omega
    subst e
    rw [List.drop_length] at eL
    have eL : Lm.R.ok Ctl.nx w'.s = .ok c sF := eL
    cases eL
    exact .inl ⟨ok.stop H2 sub2, P1 w' σ2 H2 rfl R2 S2⟩
theorem ss_while (hp : PassesOwn (model X.prog X.w) X.A X.env X.xe) (hc : PT X e (tB2 X.K C t)) (hb : PSs X sts (tSs X.K C He qs)) : PS X (.While e sts [] pos) (tS X.K C He (.while_ t qs)) := PS.imp (ps_while hp hc hb) fun D σ H ⟨w, R, z, P⟩ => by
  have P : PostS X.K w H (whLoop (fun s => (ev C t s).bind fun x s1 => Lm.R.of (asB x.1) s1) (fun s => exs C qs s) C.fuel w.s) _ := P
  obtain ⟨c, sF, hF⟩ := okS_of P
  rw [hF] at P
  refine ⟨fun m σ H' => ∃ w', whLoop (fun s => (ev C t s).bind fun x s1 => Lm.R.of (asB x.1) s1) (fun s => exs C qs s) m w'.s = .ok c sF ∧ Rep X.K w' σ H' ∧ Step w H w' H', ⟨C.fuel, w, hF, R, Step.refl w H⟩, ?_⟩
  rintro m σ2 H2 ⟨w', eL, R2, S2⟩
  cases m with
  | zero => cases eL
  | succ m =>
    obtain ⟨b, sB, eB, eL⟩ := bind_ok_inv (show ((ev C t w'.s).bind fun x s1 => Lm.R.of (asB x.1) s1).bind _ = .ok c sF from eL)
    refine ⟨w', R2, post_ok eB fun w3 H3 e3 R3 S3 => ?_⟩
    cases b with
    | false =>
      simp only [Bool.false_eq_true, if_false] at eL
      cases eL
      exact iteF (P w3 σ2 H3 e3 R3 (S2.trans S3))
    | true =>
      simp only [if_pos] at eL
      obtain ⟨k, sC, eC, eL⟩ := bind_ok_inv eL
      rw [← e3] at eC
      have eC : exs C qs w3.s = .ok k sC := eC
      refine iteT ⟨fun σ H' => ∃ w', whLoop (fun s => (ev C t s).bind fun x s1 => Lm.R.of (asB x.1) s1) (fun s => exs C qs s) m w'.s = .ok c sF ∧ Rep X.K w' σ H' ∧ Step w H w' H', fun σ' H' h => ⟨m, Nat.lt_succ_self m, h⟩, w3, R3, z.step (S2.trans S3) R3, ?_⟩
      rw [eC]
      intro w5 σ5 H5 e5 R5 S5
      have S15 := (S2.trans S3).trans S5
      cases k with
      | nx => exact ⟨w5, by rw [e5]; exact eL, R5, S15⟩
      | cnt => exact ⟨w5, by rw [e5]; exact eL, R5, S15⟩
      | brk =>
        cases eL
        exact P w5 σ5 H5 e5 R5 S15
      | ret d o =>
        cases eL
        exact P w5 σ5 H5 e5 R5 S15
end
end Lm
set_option Elab.async false
set_option linter.all false
set_option maxRecDepth 100000
set_option maxHeartbeats 4000000
/-! max of ints with a default: the library has it without one. -/
namespace Lm
open PySem PySem.Spec PyProof.Rows L2
section
variable {pr : Program} {wd : World} {B : Around} {Z : Result → Shared → Prop} {it b : Addr} {fs ws : List Addr} {m : Nat} {T : Nat → Value → Prop} {Y : Nat → Heap → Prop} {dv : Value}
/-- the two cells in which the best so far stands -/
abbrev bestO (l : List Value) (c : Nat) : Obj := ⟨.type "list", none, .seq l.toArray c, #[]⟩
theorem mxName : (toString "max" ++ toString ".loop" : String) = "max.loop" := by decide
abbrev mxC (it b : Addr) (dv : Value) : Code := .builtin "max.loop" ⟨[.ref it, .none, .ref b], [("default", dv)]⟩
theorem mx_more (A : Walks pr wd B.in1 it fs ws m T Y) (gt : Nat → Nat → Bool) (cmp : CmpOf pr wd B.in1 .Gt T gt) (nb : b ∉ fs) : ∀ (left at_ : Nat) (s : Shared) (v : Value) (c : Nat), m - (at_ + 1) = left → at_ + 1 ≤ m → Y (at_ + 1) s.heap → T (argBest gt at_) v → s.heap.get? b = some (bestO [v, v] c) →
    (∀ u h' tk, T (argBest gt (m - 1)) u → (∀ a o, a ∉ ws → a ≠ b → s.heap.get? a = some o → h'.get? a = some o) → Z (.ok (.ret u)) { s with heap := h', toks := tk }) → codeAny (model pr wd) B (mxC it b dv) Z s := by
  have nw : b ∉ ws := fun z => nb (A.sub _ z)
  intro left
  induction left with
  | zero =>
    intro at_ s v c e le st t hb q
    have em : at_ + 1 = m := by omega
    refine codeAny_builtin F.entry_max_loop ?_
    rw [Around.under_plainId F.plain_max_loop _]
    show wpAny _ B.in1 (seqItems? (.ref b) >>= _) _ _ s
    refine wpAny_bind (wpAny_seqItems hb rfl ?_)
    show wpAny _ B.in1 (tryCatch (pyNext (.ref it)) _ >>= _) _ _ s
    refine wpAny_bind (wpAny_tryCatch (A.done s _ _ (em ▸ st) fun h' tk kp => ?_))
    have hb2 := kp b _ nw hb
    show wpAny _ B.in1 (updateSeq b (fun _ => #[]) >>= _) _ _ _
    refine wpAny_bind (wpAny_updateSeq hb2 rfl (wpAny_bind (wpAny_letGo (wpAny_pure ?_))))
    exact q v _ tk (by rw [← em]; exact t) fun a o h1 h2 z => (Heap.get?_update_other _ _ (Ne.symm h2)).trans (kp a o h1 z)
  | succ left ih =>
    intro at_ s v c e le st t hb q
    refine codeAny_builtin F.entry_max_loop ?_
    rw [Around.under_plainId F.plain_max_loop _]
    show wpAny _ B.in1 (seqItems? (.ref b) >>= _) _ _ s
    refine wpAny_bind (wpAny_seqItems hb rfl ?_)
    show wpAny _ B.in1 (tryCatch (pyNext (.ref it)) _ >>= _) _ _ s
    refine wpAny_bind (wpAny_tryCatch (A.item (at_ + 1) s _ _ (by omega) st fun u h' tk tu st2 kp => ?_))
    have hb2 := kp b _ nw hb
    show wpAny _ B.in1 (tryCatch (holding [u, u] (richCompare .Gt u v >>= _)) _ >>= _) _ _ _
    refine wpAny_bind (wpAny_tryCatch (wpAny_holding (wpAny_bind (cmp (at_ + 1) (argBest gt at_) u v _ _ _ tu t ?_))))
    refine wpAny_bind (wpAny_holding (wpAny_truthy_bool (wpAny_bind (wpAny_letGo (wpAny_pure ?_)))))
    by_cases g : gt (at_ + 1) (argBest gt at_) = true
    · rw [g]
      simp only [if_true]
      refine wpAny_bind (wpAny_updateSeq hb2 rfl (wpAny_bind (wpAny_letGo ?_)))
      rw [mxName]
      refine wpAny_pure ⟨plainId_quiet F.plain_max_loop _, ih (at_ + 1) _ u _ (by omega) (by omega) (A.frame _ _ _ st2 fun a z o e => ?_) (by simp only [argBest, g, if_true]; exact tu) (Heap.get?_update_self _ hb2 rfl) fun x h2 tk2 tx kp2 => ?_⟩
      · exact (Heap.get?_update_other _ _ (fun y : b = a => nb (y ▸ z))).trans e
      · exact q x h2 tk2 tx fun a o h3 h4 e => kp2 a o h3 h4 ((Heap.get?_update_other _ _ (Ne.symm h4)).trans (kp a o h3 e))
    · rw [Bool.not_eq_true] at g
      rw [g]
      simp only [Bool.false_eq_true, if_false]
      refine wpAny_bind (wpAny_letGo ?_)
      rw [mxName]
      exact wpAny_pure ⟨plainId_quiet F.plain_max_loop _, ih (at_ + 1) _ v c (by omega) (by omega) st2 (by simp only [argBest, g, Bool.false_eq_true, if_false]; exact t) hb2 fun x h2 tk2 tx kp2 => q x h2 tk2 tx fun a o h3 h4 e => kp2 a o h3 h4 (kp a o h3 e)⟩
theorem mx_run (A : Walks pr wd B.in1 it fs ws m T Y) (gt : Nat → Nat → Bool) (cmp : CmpOf pr wd B.in1 .Gt T gt) (nb : b ∉ fs) {s : Shared} {c : Nat} (st : Y 0 s.heap) (hb : s.heap.get? b = some (bestO [] c))
    (q : ∀ u h' tk, (m = 0 ∧ u = dv) ∨ (0 < m ∧ T (argBest gt (m - 1)) u) → (∀ a o, a ∉ ws → a ≠ b → s.heap.get? a = some o → h'.get? a = some o) → Z (.ok (.ret u)) { s with heap := h', toks := tk }) : codeAny (model pr wd) B (mxC it b dv) Z s := by
  have nw : b ∉ ws := fun z => nb (A.sub _ z)
  refine codeAny_builtin F.entry_max_loop ?_
  rw [Around.under_plainId F.plain_max_loop _]
  show wpAny _ B.in1 (seqItems? (.ref b) >>= _) _ _ s
  refine wpAny_bind (wpAny_seqItems hb rfl ?_)
  show wpAny _ B.in1 (tryCatch (pyNext (.ref it)) _ >>= _) _ _ s
  rcases Nat.eq_zero_or_pos m with e | e
  · refine wpAny_bind (wpAny_tryCatch (A.done s _ _ (e ▸ st) fun h' tk kp => ?_))
    show wpAny _ B.in1 (rule _ >>= fun _ => ret dv) _ _ _
    refine wpAny_bind (wpAny_rule ?_)
    exact wpAny_pure (q dv h' tk (.inl ⟨e, rfl⟩) fun a o h1 _ z => kp a o h1 z)
  · refine wpAny_bind (wpAny_tryCatch (A.item 0 s _ _ e st fun u h' tk tu st2 kp => ?_))
    have hb2 := kp b _ nw hb
    show wpAny _ B.in1 (updateSeq b (fun _ => #[u, u]) >>= _) _ _ _
    refine wpAny_bind (wpAny_updateSeq hb2 rfl ?_)
    rw [mxName]
    refine wpAny_pure ⟨plainId_quiet F.plain_max_loop _, mx_more A gt cmp nb _ 0 _ u _ rfl e (A.frame _ _ _ st2 fun a z o e => ?_) tu (Heap.get?_update_self _ hb2 rfl) fun x h2 tk2 tx kp2 => ?_⟩
    · exact (Heap.get?_update_other _ _ (fun y : b = a => nb (y ▸ z))).trans e
    · exact q x h2 tk2 (.inr ⟨e, tx⟩) fun a o h3 h4 e => kp2 a o h3 h4 ((Heap.get?_update_other _ _ (Ne.symm h4)).trans (kp a o h3 e))
end
section
variable {pr : Program} {wd : World} {B : Around} {E : Value → Shared → Prop} {s : Shared} {p : Addr} {js : List Value} {zs : List Int} {dv : Value} {Q : Value → Shared → Prop}
theorem mx_args (a b : Value) : argsOk "max" ⟨[a], [("default", b)]⟩ := by
  unfold argsOk
  kernel_rfl
theorem call_kw_tree {id : String} {fn : Builtin} {as : List Value} {kw : List (Str × Value)} (k1 : builtinKind id = none) (k2 : plainId id = true) (k3 : entryFor table id = some fn) (k4 : argsOk id ⟨as, kw⟩)
    (k5 : wpAny (model pr wd) B.in1 (fn ⟨as, kw⟩) (fun fin z => match fin with
      | .done f => (match (Except.ok f : Result) with
        | .ok (.ret v) => Q v z
        | .ok _ => False
        | .error e => E e z)
      | .again c => c.quiet = true ∧ codeAny (model pr wd) B c (fun r z => match r with
        | .ok (.ret v) => Q v z
        | .ok _ => False
        | .error e => E e z) z) E s) : wpAny (model pr wd) B (call (.builtin id) as kw) Q E s := by
  refine wpAny_call (codeAny_call_builtin k2 k3 ?_)
  simp only [checkBuiltinCall, k1]
  cases sg : Manifest.signature? id with
  | none => exact wpAny_pure k5
  | some sig =>
    simp only [argsOk, sg] at k4
    have k6 : Bind.checkArgs id sig ⟨as, kw⟩ = pure () := k4
    show wpAny _ B.in1 (Bind.checkArgs id sig ⟨as, kw⟩) _ _ s
    rw [k6]
    exact wpAny_pure k5
theorem maxd_raw (hh : B.handled = none) (hl : s.heap.IsList p js.toArray) (hi : IntsAre js zs)
    (q : ∀ h' tk v, (∀ a o, s.heap.get? a = some o → h'.get? a = some o) → (zs = [] ∧ v = dv) ∨ (∃ (m : Int) (t : Tok), v = .int m t ∧ m ∈ zs ∧ ∀ y ∈ zs, y ≤ m) → Q v { s with heap := h', toks := tk }) :
    wpAny (model pr wd) B (call (.builtin "max") [.ref p] [("default", dv)]) Q E s := by
  obtain ⟨xs, e⟩ := hi.allInts.items
  have en : numsOf (intItems xs).toList = zs := e ▸ hi.numsOf
  rw [nums_intItems] at en
  rw [e] at hl
  have sz : (intItems xs).size = xs.size := by simp [intItems]
  have zl : zs.length = xs.size := by rw [← en]; simp
  refine call_kw_tree F.kind_max F.plain_max F.entry_max (mx_args _ _) ?_
  show wpAny _ B.in1 (Builtin.Builtins.bindParams "max" ["key", "default"] 0 ⟨[], [("default", dv)]⟩ >>= _) _ _ s
  refine wpAny_bind (wpAny_of_eq (show Builtin.Builtins.bindParams "max" ["key", "default"] 0 ⟨[], [("default", dv)]⟩ = pure [none, some dv] from rfl) ?_)
  refine wpAny_bind (wpAny_pure (wpAny_bind (PySem.iter_intList hl fun s2 e2 st fr nl => ?_)))
  subst e2
  refine wpAny_bind (wpAny_newObj_type ?_)
  have A := Walks.list (prog := pr) (w := wd) (A := B.in1) hh s.heap.objs.size p nl (intItems xs)
  rw [mxName]
  refine wpAny_pure ⟨plainId_quiet F.plain_max_loop _, mx_run A _ (CmpOf.ints_gt (numAt xs) fun _ _ => intItems_at) (fun z => Nat.lt_irrefl _ (fr _ z)) (A.frame _ _ _ st fun a _ o z => Heap.get?_push_of_some _ z) (Heap.get?_push_size _ rfl) fun u h' tk hu kp => ?_⟩
  refine q h' tk u (fun a o z => PySem.old_kept (fun c o2 nc z2 => kp c o2 nc (Nat.ne_of_lt (Heap.lt_size z2)) (Heap.get?_push_of_some _ z2)) a o z) ?_
  rcases hu with ⟨z, rfl⟩ | ⟨z, tu⟩
  · exact .inl ⟨List.eq_nil_of_length_eq_zero (by omega), rfl⟩
  · rw [sz] at z tu
    obtain ⟨t, rfl⟩ := intItems_at tu
    obtain ⟨b1, b2⟩ := argBest_gt (numAt xs) (xs.size - 1)
    refine .inr ⟨_, t, rfl, ?_, fun y hy => ?_⟩
    · rw [← en, numAt_eq]
      exact PySem.getD_mem (by rw [List.length_map, Array.length_toList]; omega)
    · rw [← en] at hy
      obtain ⟨j, hj, rfl⟩ := mem_getD hy
      rw [List.length_map, Array.length_toList] at hj
      rw [← numAt_eq]
      exact b2 j (by omega)
end
section
variable {X : Cx}
/-- max of a list of ints, with what is told of none -/
def rMaxd (K : PySem.W.Frag) : List V → List V → Hp → VK → Prop := fun vs ws H Q => ∃ (a : Addr) (zs : List Int) (d : Int), vs = [.ref a] ∧ ws = [.int d] ∧ SqL K H a (zs.map V.int) ∧ ∀ m, (zs = [] ∧ m = d) ∨ (m ∈ zs ∧ ∀ y ∈ zs, y ≤ m) → Q (.int m) H
theorem cr_maxd (hc : X.calm = true) : CallRK X (.builtin "max") [Str.ofString "default"] (rMaxd X.K) := by
  intro pins s σ H vs ws us ks Q I r rk h
  obtain ⟨a, zs, d, rfl, rfl, hs, q⟩ := h
  obtain ⟨its, rv, hl, _⟩ := I.list hs
  obtain rfl := Vals.ref1 r
  obtain ⟨w1, rfl, e1⟩ := vals1 rk
  obtain ⟨t, rfl⟩ := e1
  refine maxd_raw (I.ok.hd hc) hl.isList rv.ints fun h' tk v kp hv => ?_
  rcases hv with ⟨z, rfl⟩ | ⟨m, t, rfl, h1, h2⟩
  · exact ⟨.int d, H, I.kept kp, ⟨_, rfl⟩, q d (.inl ⟨z, rfl⟩)⟩
  · exact ⟨.int m, H, I.kept kp, ⟨_, rfl⟩, q m (.inr ⟨h1, h2⟩)⟩
end
end Lm
set_option Elab.async false
set_option linter.all false
set_option maxRecDepth 100000
set_option maxHeartbeats 8000000
/-! Calls with defaults; a list lent beside another argument; max with a default. -/
namespace Lm
open PySem L2
section
variable {X : Cx} {C : Ctx} {e e2 : Expr} {es : List Expr} {as : List T} {a : T} {i : Nat} {x : Str} {p pos kp : Pos} {k n : Nat} {fa : Addr} {fd : FuncData} {ps : List Str} {dvs : List V} {dus : List Value} {ds0 : List D}
theorem se_calld (F : FnOk X.prog X.w X.K X.mg X.base CX0 k fa fd ps (spD X.K C n x)) (hr : Room k X.A) (hg : Gl X x) (hm : X.mg x = some (.ref fa)) (hk : PySem.W.keepIn X.K (.ref fa) = true) (hb : Binds X.K fd ps dus) (hv : Vals dvs dus) (hd : ∀ F μ, IsAll X.K F μ dvs ds0)
    (ha : PA X (e :: es) (tAs X.K C as)) (hdb : (x == ("__debug__" : Str)) = false) (hs : (e :: es).all noStar = true) (hc : ∀ ds g p s, C.call x ds g = .ok p s → ds.length = n) :
    PE X (.Call (.Name x p) (e :: es) [] pos) (tE X.K C (.calld x as ds0)) := by
  rw [List.all_cons, Bool.and_eq_true] at hs
  refine PE.imp (pe_call F hr hg hm hk hb hv pass0 ha hdb (star_ok hs.1) (stars_ok hs.2)) fun σ H Q ⟨w, R, P⟩ => ?_
  have P : Post X.K w σ H ((evs C as w.s).bind fun ds s1 => match C.call x (ds ++ ds0) s1.g with
      | .ok p s2 => .ok p { s1 with g := s2.g }
      | .exc c d s2 => .exc c d { s1 with g := s2.g }
      | .bad => .bad) _ := P
  refine call_read w R hd (fun _ _ _ _ _ => trivial) P fun ds ⟨s1, q⟩ => ?_
  rw [q] at P
  cases q2 : C.call x (ds ++ ds0) s1.g with
  | ok p s2 => rw [← List.length_append]; exact hc _ _ _ _ q2
  | exc _ _ _ => simp only [Lm.R.bind_ok, q2] at P; exact P.elim
  | bad => simp only [Lm.R.bind_ok, q2] at P; exact P.elim
theorem se_maxd {d : Int} {x0 : Str} (e0 : x0 = "max") (hcm : X.calm = true) (hg : Gl X x0) (hm : X.mg x0 = none) (ha : PE X e (tE X.K C a)) (hs : noStar e = true) {cp : Pos} {m : Nat} :
    PE X (.Call (.Name x0 p) [e] [⟨some "default", .Constant (.int d) m cp, kp⟩] pos) (tE X.K C (.maxd a d)) := by
  subst e0
  refine PE.imp (pe_callBK (cr_maxd hcm) hg hm (by rfl) (pa_cons (PE.fz ha) pa_nil (star_ok hs)) (pk_cons pe_int pk_nil) (he := (congrArg (backTo pos) (star_ok hs)).trans rfl) (hpl := by rw [star_ok hs]; rfl)) fun σ H Q ⟨w, R, P⟩ => ?_
  refine tF_of R (Post.bind P) fun x w1 H1 v R1 S1 P1 i1 => ?_
  show rMaxd X.K [v] [.int d] H1 Q
  cases hx : x.1 with
  | lst xs =>
    rw [hx] at P1 i1
    cases q : intsD xs with
    | none =>
      have P1 : Post X.K w1 σ H1 (Lm.R.of ((intsD xs).map fun is => ((.int ((maxI is).getD d), false) : D × Bool)) w1.s) _ := P1
      rw [q] at P1
      exact P1.elim
    | some is =>
      have P1 : Post X.K w1 σ H1 (Lm.R.of ((intsD xs).map fun is => ((.int ((maxI is).getD d), false) : D × Bool)) w1.s) _ := P1
      rw [q] at P1
      cases i1 with
      | lst h r =>
        have e := r.intsD q
        subst e
        refine ⟨_, is, d, rfl, rfl, SqL.of (R1.ex _ _ h), fun m hm => ?_⟩
        have e : (maxI is).getD d = m := by
          rcases hm with ⟨rfl, rfl⟩ | ⟨h1, h2⟩
          · rfl
          · rw [maxI_is is m h1 h2]; rfl
        have P1 := Post.here R1 P1 (.int m) (by show Is X.K w1.F w1.μ (.int m) (.int ((maxI is).getD d)); rw [e]; exact .int m)
        exact P1
  | _ =>
    rw [hx] at P1
    exact P1.elim
theorem se_callc (F : FnOk X.prog X.w X.K X.mg X.base CX0 k fa fd ps (spD X.K C n x)) (hr : Room k X.A) (hg : Gl X x) (hm : X.mg x = some (.ref fa)) (hk : PySem.W.keepIn X.K (.ref fa) = true) (hb : Binds X.K fd ps [])
    (hi : PE X e (tVar i)) (ha : PE X e2 (tE X.K C a)) (hdb : (x == ("__debug__" : Str)) = false) (h1 : noStar e = true) (h2 : noStar e2 = true) (hc : ∀ ds g p s, C.call x ds g = .ok p s → ds.length = n) :
    PE X (.Call (.Name x p) [e, e2] [] pos) (tE X.K C (.callc x i a)) := by
  refine PE.imp (pe_call F hr hg hm hk hb .nil pass0 (pa_cons hi (sa_cons ha sa_nil (star_ok h2)) (star_ok h1)) hdb (star_ok h1) (stars_ok (by simp [h2]))) fun σ H Q ⟨w, R, P⟩ => ?_
  have P : Post X.K w σ H ((rd i w.s).bind fun _ s0 => (ev C a s0).bind fun y s1 => (rd i s1).bind fun d s2 => match C.call x [d, y.1] s2.g with
      | .ok p s3 => if flat p.1 && flatG s3.g then .ok (p.1, false) { s2 with g := s3.g } else .bad
      | .exc c d s3 => .exc c d { s2 with g := s3.g }
      | .bad => .bad) (fun p w' H' => ∀ v, w'.val X.K H H' v p → Q v H') := P
  -- what stands in the slot
  have rdv : ∀ {w1 : W} {H1 : Hp}, Rep X.K w1 σ H1 → ∀ {d : D} {s' : S}, rd i w1.s = .ok d s' → s' = w1.s ∧ ∃ v, σ[i]? = some (some v) ∧ Is X.K (lendF w1 H1 [i]) w1.μ v d := fun {w1 H1} R1 {d s'} q => by
    obtain ⟨e, v, h3, h4⟩ := lent_ok R1 [i] [i] [d] s' (fun vs _ => IsAll X.K (lendF w1 H1 [i]) w1.μ vs [d]) (fun _ h => h) (by show (rd i w1.s).bind _ = _; rw [q]; rfl) fun _ h => h
    cases h4 with
    | cons h5 _ => exact ⟨e, v, h3, h5⟩
  cases q : rd i w.s with
  | bad => rw [q] at P; exact P.elim
  | exc _ _ _ => rw [q] at P; exact P.elim
  | ok d0 s0 =>
    obtain ⟨rfl, v, hv, _⟩ := rdv R q
    rw [q] at P
    have P : Post X.K w σ H ((ev C a w.s).bind fun y s1 => (rd i s1).bind fun d s2 => match C.call x [d, y.1] s2.g with
      | .ok p s3 => if flat p.1 && flatG s3.g then .ok (p.1, false) { s2 with g := s3.g } else .bad
      | .exc c d s3 => .exc c d { s2 with g := s3.g }
      | .bad => .bad) (fun p w' H' => ∀ v, w'.val X.K H H' v p → Q v H') := P
    have P : Post X.K w σ H ((evs C [a] w.s).bind fun ds s1 => (rd i s1).bind fun d s2 => match C.call x (d :: ds) s2.g with
      | .ok p s3 => if flat p.1 && flatG s3.g then .ok (p.1, false) { s2 with g := s3.g } else .bad
      | .exc c d s3 => .exc c d { s2 with g := s3.g }
      | .bad => .bad) (fun p w' H' => ∀ v, w'.val X.K H H' v p → Q v H') := by
      show Post X.K w σ H (((ev C a w.s).bind fun x s1 => .ok [x.1] s1).bind _) _
      rw [Lm.R.bind_assoc]
      exact P
    refine ⟨v, hv, tAs_of R (Post.bind P) fun ds w1 H1 vs R1 S1 P1 i1 => ?_⟩
    cases q1 : rd i w1.s with
    | bad => rw [q1] at P1; exact P1.elim
    | exc _ _ _ => rw [q1] at P1; exact P1.elim
    | ok d s1 =>
      obtain ⟨rfl, v1, hv1, i2⟩ := rdv R1 q1
      rw [hv] at hv1
      cases hv1
      rw [q1] at P1
      have P1 : Post X.K w1 σ H1 (match C.call x (d :: ds) w1.s.g with
        | .ok p s3 => if flat p.1 && flatG s3.g then .ok (p.1, false) { w1.s with g := s3.g } else .bad
        | .exc c d s3 => .exc c d { w1.s with g := s3.g }
        | .bad => .bad) (fun p w' H' => ∀ v, w'.val X.K H H' v p → Q v H') := P1
      cases q2 : C.call x (d :: ds) w1.s.g with
      | bad => rw [q2] at P1; exact P1.elim
      | exc _ _ _ => rw [q2] at P1; exact P1.elim
      | ok p s2 =>
        rw [q2] at P1
        by_cases c : (flat p.1 && flatG s2.g) = true
        · simp only [if_pos c] at P1
          rw [Bool.and_eq_true] at c
          have i3 : IsAll X.K (lendF w1 H1 [i]) w1.μ (v :: vs) (d :: ds) := .cons i2 (i1.mono lend_sub (Pre.refl _))
          refine ⟨by rw [List.append_nil, i3.length]; exact hc _ _ _ _ q2, lendF w1 H1 [i], w1.μ, w1.s.g, d :: ds, R1.lend [i], by rw [List.append_nil]; exact i3, ?_⟩
          refine post_ok' q2 fun w' H' e2 R' S' u hu => ?_
          obtain ⟨R2, S2⟩ := R1.unlend [i] R' S' (by rw [e2]; exact c.2)
          refine P1 _ H' (by rw [e2]) R2 S2 u ?_
          obtain ⟨d2, o⟩ := p
          cases o with
          | false => exact flat_is (show Is X.K w'.F w'.μ u d2 from hu) c.1
          | true =>
            obtain ⟨_, _, ds', _, q3, _⟩ := hu
            have q3 : d2 = .lst ds' := q3
            rw [q3] at c
            simp [flat] at c
        · simp only [if_neg c] at P1; exact P1.elim
end
end Lm
set_option Elab.async false
set_option linter.all false
set_option maxRecDepth 100000
set_option maxHeartbeats 4000000
/-! The look: a text of the program and a text of the interpreter's say the same; and why that is enough. -/
namespace Lm
open PySem L2

structure Glob where
  con : List (Str × D)
  fn : List (Str × Nat)
  dfl : List (Str × List D)

mutual
def same : D → D → Bool
  | .non, .non => true
  | .bl a, .bl b => a == b
  | .int a, .int b => a == b
  | .str a, .str b => a == b
  | .tup a, .tup b => sames a b
  | _, _ => false
def sames : List D → List D → Bool
  | [], [] => true
  | a :: x, b :: y => same a b && sames x y
  | _, _ => false
end
mutual
theorem same_ok : ∀ (a b : D), same a b = true → a = b
  | .non, .non, _ => rfl
  | .bl _, .bl _, h => by simp [same] at h; rw [h]
  | .int _, .int _, h => by simp [same] at h; rw [h]
  | .str _, .str _, h => by simp [same] at h; rw [h]
  | .tup a, .tup b, h => by rw [sames_ok a b (by simpa [same] using h)]
  | .non, .bl _, h | .non, .int _, h | .non, .str _, h | .non, .tup _, h | .non, .lst _, h | .non, .dic _, h | .non, .scr _, h | .non, .obj _, h => by cases h
  | .bl _, .non, h | .bl _, .int _, h | .bl _, .str _, h | .bl _, .tup _, h | .bl _, .lst _, h | .bl _, .dic _, h | .bl _, .scr _, h | .bl _, .obj _, h => by cases h
  | .int _, .non, h | .int _, .bl _, h | .int _, .str _, h | .int _, .tup _, h | .int _, .lst _, h | .int _, .dic _, h | .int _, .scr _, h | .int _, .obj _, h => by cases h
  | .str _, .non, h | .str _, .bl _, h | .str _, .int _, h | .str _, .tup _, h | .str _, .lst _, h | .str _, .dic _, h | .str _, .scr _, h | .str _, .obj _, h => by cases h
  | .tup _, .non, h | .tup _, .bl _, h | .tup _, .int _, h | .tup _, .str _, h | .tup _, .lst _, h | .tup _, .dic _, h | .tup _, .scr _, h | .tup _, .obj _, h => by cases h
  | .lst _, b, h => by cases b <;> cases h
  | .dic _, b, h => by cases b <;> cases h
  | .scr _, b, h => by cases b <;> cases h
  | .obj _, b, h => by cases b <;> cases h
theorem sames_ok : ∀ (a b : List D), sames a b = true → a = b
  | [], [], _ => rfl
  | [], _ :: _, h => by cases h
  | _ :: _, [], h => by cases h
  | a :: x, b :: y, h => by
    have h : (same a b && sames x y) = true := h
    rw [Bool.and_eq_true] at h
    rw [same_ok a b h.1, sames_ok x y h.2]
end
def constD : Const → Option D
  | .none => some .non
  | .bool b => some (.bl b)
  | .int i => some (.int i)
  | .str s => some (.str s.cps.toList)
  | _ => none
def vis (sc : Scope) (x : Str) : Bool := match sc.names.lookup x with | some .local => true | some .cell => true | some .free => true | _ => false
def glb (sc : Scope) (x : Str) : Bool := match sc.names.lookup x with | some .globalImplicit => true | _ => false
def okn (x : Str) : Bool := !(x == ("__debug__" : Str)) && !(x == ("__classdict__" : Str)) && !(x == ("__name__" : Str))
def locB (sc : Scope) (fo : Str → Bool) (x : Str) : Bool := match sc.names.lookup x with | some .local => true | some .cell => fo x | _ => false
def slotB (N : List Str) (sc : Scope) (e : Expr) (i : Nat) : Bool := match e with | .Name x _ => decide (N[i]? = some x) && vis sc x && okn x | _ => false
def cstB (G : Glob) (sc : Scope) (e : Expr) (d : D) : Bool := match e with
  | .Constant c _ _ => (match constD c with | some d' => same d' d | none => false)
  | .Name x _ => glb sc x && okn x && (match G.con.lookup x with | some d' => same d' d | none => false)
  | _ => false
def opIs : BOp → Operator → Bool
  | .add, .Add | .sub, .Sub | .mul, .Mult | .fdiv, .FloorDiv | .mod, .Mod | .pow, .Pow => true
  | _, _ => false
def cIs : COp → CmpOp → Bool
  | .eq, .Eq | .ne, .NotEq | .lt, .Lt | .le, .LtE | .gt, .Gt | .ge, .GtE | .is, .Is | .isn, .IsNot | .inn, .In | .nin, .NotIn => true
  | _, _ => false
theorem opIs_ok {o : BOp} {p : Operator} (h : opIs o p = true) : p = opOf o := by cases o <;> cases p <;> first | rfl | cases h
theorem cIs_ok {o : COp} {p : CmpOp} (h : cIs o p = true) : p = cOf o := by cases o <;> cases p <;> first | rfl | cases h
def biName : Bi → Str
  | .len => "len" | .abs => "abs" | .all => "all" | .any => "any" | .max => "max" | .min => "min" | .tuple => "tuple" | .list => "list" | _ => "?"
def biOk : Bi → Bool
  | .len | .abs | .all | .any | .max | .min | .tuple | .list => true
  | _ => false
def noSet : Expr → Bool
  | .Set _ _ _ => false
  | _ => true
/-- an argument list -/
def chks (f : Expr → T → Bool) : List Expr → List T → Bool
  | [], [] => true
  | e :: es, t :: ts => noStar e && f e t && chks f es ts
  | _, _ => false
mutual
def chkTg (N : List Str) (sc : Scope) (fo : Str → Bool) : Expr → Tg → Bool
  | .Name x _, .nm i => decide (N[i]? = some x) && locB sc fo x
  | .Tuple es _ _, .tup ts => chkTgs N sc fo es ts
  | _, _ => false
def chkTgs (N : List Str) (sc : Scope) (fo : Str → Bool) : List Expr → List Tg → Bool
  | [], [] => true
  | e :: es, t :: ts => noStar e && chkTg N sc fo e t && chkTgs N sc fo es ts
  | _, _ => false
end
def isTup : Expr → Bool
  | .Tuple _ _ _ => true
  | _ => false
/-- what is walked: its source, by the look f at expressions -/
def chkSrc (sc : Scope) (f : Expr → T → Bool) (tg iter : Expr) : SK → List T → Bool
  | .val, [a] => noSet iter && f iter a
  | .rng1, [a] => match iter with
    | .Call (.Name g _) [x] [] _ => g == ("range" : Str) && glb sc "range" && noStar x && f x a
    | _ => false
  | .rng2, [a, b] => match iter with
    | .Call (.Name g _) [x, y] [] _ => g == ("range" : Str) && glb sc "range" && noStar x && noStar y && f x a && f y b
    | _ => false
  | .enum, [a] => match iter with
    | .Call (.Name g _) [x] [] _ => isTup tg && g == ("enumerate" : Str) && glb sc "enumerate" && noStar x && f x a
    | _ => false
  | _, _ => false
def ownP (N : List Str) (own : List Nat) : List (Str × Nat) := own.map fun i => (N.getD i "", i)
def chkI (N : List Str) (sc : Scope) : List Expr → List Nat → Bool
  | [], [] => true
  | e :: es, i :: is => noStar e && slotB N sc e i && chkI N sc es is
  | _, _ => false
def chkPart (f : Expr → T → Bool) (l : Option Expr) (t : T) : Bool := match t with
  | .none_ => l.isNone
  | t => match l with
    | some e => f e t
    | none => false
def chkCond (f : Expr → T → Bool) : List Expr → Option T → Bool
  | [], none => true
  | [z], some c => f z c
  | _, _ => false
/-- o.m(x), a text's method -/
def chkM (nm : Str) (f : Expr → T → Bool) : Expr → List T → Bool
  | .Call (.Attribute o m ap) [x] [] p, [a, b] => m == nm && noSuper o && ap.endLine == p.line && noStar x && f o a && f x b
  | _, _ => false
/-- g(x), a built-in -/
def chkB (sc : Scope) (g : Bi) (f : Expr → T → Bool) : Expr → List T → Bool
  | .Call (.Name h _) [x] [] _, [a] => biOk g && h == biName g && glb sc h && noStar x && f x a
  | _, _ => false
theorem chkM_ok {nm : Str} {f : Expr → T → Bool} {e : Expr} {as : List T} (h : chkM nm f e as = true) : ∃ o ap x p a b, e = .Call (.Attribute o nm ap) [x] [] p ∧ as = [a, b] ∧ noSuper o = true ∧ (ap.endLine == p.line) = true ∧ noStar x = true ∧ f o a = true ∧ f x b = true := by
  unfold chkM at h
  split at h
  · simp only [Bool.and_eq_true] at h
    obtain ⟨⟨⟨⟨⟨h1, h2⟩, h3⟩, h4⟩, h5⟩, h6⟩ := h
    have e := eq_of_beq h1
    subst e
    exact ⟨_, _, _, _, _, _, rfl, rfl, h2, h3, h4, h5, h6⟩
  · cases h
theorem chkB_ok {sc : Scope} {g : Bi} {f : Expr → T → Bool} {e : Expr} {as : List T} (h : chkB sc g f e as = true) : ∃ px x p a, e = .Call (.Name (biName g) px) [x] [] p ∧ as = [a] ∧ biOk g = true ∧ glb sc (biName g) = true ∧ noStar x = true ∧ f x a = true := by
  unfold chkB at h
  split at h
  · simp only [Bool.and_eq_true] at h
    obtain ⟨⟨⟨⟨h1, h2⟩, h3⟩, h4⟩, h5⟩ := h
    have e := eq_of_beq h2
    subst e
    exact ⟨_, _, _, _, rfl, rfl, h1, h3, h4, h5⟩
  · cases h
/-- md: may it stand as a test -/
def chk (G : Glob) (N : List Str) : Nat → Bool → Scope → (Str → Bool) → Expr → T → Bool
  | 0, _, _, _, _, _ => false
  | n + 1, md, sc, fo, e, t => match t with
    | .v i => slotB N sc e i
    | .c d => cstB G sc e d
    | .tup as => match e with
      | .Tuple es _ _ => chks (chk G N n false sc fo) es as
      | _ => false
    | .lst as => match e with
      | .List es _ => chks (chk G N n false sc fo) es as
      | _ => false
    | .bin o a b => match e with
      | .BinOp x p y _ => opIs o p && chk G N n false sc fo x a && chk G N n false sc fo y b
      | _ => false
    | .neg a => match e with
      | .UnaryOp .USub x _ => chk G N n false sc fo x a
      | _ => false
    | .not_ a => match e with
      | .UnaryOp .Not x _ => chk G N n md sc fo x a
      | _ => false
    | .and_ a b => match e with
      | .BoolOp .And [x, y] _ => chk G N n md sc fo x a && chk G N n md sc fo y b
      | .BoolOp .And (x :: y :: z :: r) p => chk G N n md sc fo x a && (match b with | .and_ _ _ => chk G N n md sc fo (.BoolOp .And (y :: z :: r) p) b | _ => false)
      | _ => false
    | .or_ a b => match e with
      | .BoolOp .Or [x, y] _ => chk G N n md sc fo x a && chk G N n md sc fo y b
      | .BoolOp .Or (x :: y :: z :: r) p => chk G N n md sc fo x a && (match b with | .or_ _ _ => chk G N n md sc fo (.BoolOp .Or (y :: z :: r) p) b | _ => false)
      | _ => false
    | .cmp o a b => match e with
      | .Compare x [p] [y] _ => cIs o p && chk G N n false sc fo x a && chk G N n false sc fo y b && !behindInMarks p y
      | _ => false
    | .chain o p a b c => match e with
      | .Compare x [o', p'] [y, z] _ => cIs o o' && cIs p p' && chk G N n false sc fo x a && chk G N n false sc fo y b && chk G N n false sc fo z c && !lastMarks [o', p'] [y, z]
      | _ => false
    | .ife c a b => match e with
      | .IfExp z x y _ => !md && chk G N n true sc fo z c && chk G N n false sc fo x a && chk G N n false sc fo y b
      | _ => false
    | .ix a i => match e with
      | .Subscript x y _ => noSlice y && chk G N n false sc fo x a && chk G N n false sc fo y i
      | _ => false
    | .sl a lo hi => match e with
      | .Subscript x (.Slice l h none _) _ => chk G N n false sc fo x a && chkPart (chk G N n false sc fo) l lo && chkPart (chk G N n false sc fo) h hi
      | _ => false
    | .call f as => match e with
      | .Call (.Name g _) (x :: xs) [] _ => g == f && glb sc f && okn f && (match G.fn.lookup f with | some k => as.length == k | none => false) && chks (chk G N n false sc fo) (x :: xs) as
      | _ => false
    | .callb f is => match e with
      | .Call (.Name g _) (x :: xs) [] _ => g == f && glb sc f && okn f && (match G.fn.lookup f with | some _ => true | none => false) && chkI N sc (x :: xs) is
      | _ => false
    | .calld f as dl => match e with
      | .Call (.Name g _) (x :: xs) [] _ => g == f && glb sc f && okn f && (match G.fn.lookup f with | some _ => true | none => false) && (match G.dfl.lookup f with | some dl' => sames dl dl' | none => false) && chks (chk G N n false sc fo) (x :: xs) as
      | _ => false
    | .callc f i a => match e with
      | .Call (.Name g _) [x, y] [] _ => g == f && glb sc f && okn f && (match G.fn.lookup f with | some _ => true | none => false) && slotB N sc x i && noStar x && noStar y && chk G N n false sc fo y a
      | _ => false
    | .maxd a d => match e with
      | .Call (.Name g _) [x] [⟨some kn, .Constant (.int d') _ _, _⟩] _ => g == ("max" : Str) && kn == ("default" : Str) && d' == d && glb sc "max" && noStar x && chk G N n false sc fo x a
      | _ => false
    | .rev a => match e with
      | .Subscript x (.Slice none none (some (.UnaryOp .USub (.Constant (.int 1) _ _) _)) _) _ => chk G N n false sc fo x a
      | _ => false
    | .bi f as => match f with
      | .ends => chkM "endswith" (chk G N n false sc fo) e as
      | .join => chkM "join" (chk G N n false sc fo) e as
      | f => chkB sc f (chk G N n false sc fo) e as
    | .isi a k => match e with
      | .Call (.Name g _) [x, .Name y _] [] _ => g == ("isinstance" : Str) && glb sc "isinstance" && y == (Str.ofString (kName k)) && glb sc y && noStar x && chk G N n false sc fo x a
      | _ => false
    | .pop0 i => match e with
      | .Call (.Attribute o m ap) [] [] p => m == ("pop" : Str) && noSuper o && ap.endLine == p.line && slotB N sc o i
      | _ => false
    | .pop1 i a => match e with
      | .Call (.Attribute o m ap) [x] [] p => m == ("pop" : Str) && noSuper o && ap.endLine == p.line && slotB N sc o i && noStar x && chk G N n false sc fo x a
      | _ => false
    | .lc own tg sk sa cond elt => match e with
      | .ListComp y [⟨tg', it, ifs, 0⟩] scope _ => blkC N sc scope (ownP N own) && noSet it && (slotsT tg).all (fun j => own.contains j) && chkSrc sc (chk G N n false sc fo) tg' it sk sa
          && chkTg N (relS scope sc) (fun x => scope.names.lookup x == some .cell) tg' tg
          && chkCond (chk G N n true (relS scope sc) (fun x => scope.names.lookup x == some .cell)) ifs cond
          && chk G N n false (relS scope sc) (fun x => scope.names.lookup x == some .cell) y elt
      | _ => false
    | _ => false

/-! ### why it is enough -/
structure Good (G : Glob) (C : Ctx) (N : List Str) (fo : Str → Bool) (k : Nat) (X : Cx) : Prop where
  n : X.N = N
  nd : N.Nodup
  calm : X.calm = true
  room : Room k X.A
  fo : ∀ x, fo x = true → X.fn x = true
  blt : ∀ x ∈ (["len", "abs", "all", "any", "max", "min", "tuple", "list", "range", "enumerate", "zip", "isinstance", "int", "bool", "str", "sorted"] : List Str), X.mg x = none
  con : ∀ x d, G.con.lookup x = some d → ∃ u v, X.mg x = some u ∧ RelV v u ∧ ∀ F μ, Is X.K F μ v d
  fn : ∀ f n, G.fn.lookup f = some n → ∃ (fa : Addr) (fd : FuncData) (ps : List Str), ps.length = n ∧ X.mg f = some (.ref fa) ∧ PySem.W.keepIn X.K (.ref fa) = true ∧ Binds X.K fd ps [] ∧ FnOk X.prog X.w X.K X.mg X.base CX0 k fa fd ps (spD X.K C n f)
  fnd : ∀ f n dl, G.fn.lookup f = some n → G.dfl.lookup f = some dl → ∃ (fa : Addr) (fd : FuncData) (ps : List Str) (dus : List Value) (dvs : List V), ps.length = n ∧ X.mg f = some (.ref fa) ∧ PySem.W.keepIn X.K (.ref fa) = true ∧ Binds X.K fd ps dus ∧ Vals dvs dus ∧ (∀ F μ, IsAll X.K F μ dvs dl) ∧ FnOk X.prog X.w X.K X.mg X.base CX0 k fa fd ps (spD X.K C n f)
  ar : ∀ f n, G.fn.lookup f = some n → ∀ ds g p s, C.call f ds g = .ok p s → ds.length = n
theorem Good.blk {G : Glob} {C : Ctx} {N : List Str} {fo : Str → Bool} {k : Nat} {X : Cx} (g : Good G C N fo k X) (s : Shared) (H : Hp) (scope : Scope) (cl : List (Str × Addr)) (c : Addr) (fp : List Addr) :
    Good G C N (fun x => scope.names.lookup x == some .cell) k (X.blk s H scope (compEnvC scope cl c X.env) fp) :=
  ⟨g.n, g.nd, g.calm, g.room, fun x h => h, g.blt, g.con, g.fn, g.fnd, g.ar⟩
theorem vis_ok {X : Cx} {sc : Scope} {x : Str} (e : X.env.scope = sc) (h : vis sc x = true) : L2.Vis X.env.scope x := by
  rw [e]
  unfold vis at h
  split at h
  · exact .inl (by assumption)
  · exact .inr (.inl (by assumption))
  · exact .inr (.inr (by assumption))
  · cases h
theorem glb_ok {X : Cx} {sc : Scope} {x : Str} (e : X.env.scope = sc) (h : glb sc x = true) : Gl X x := by
  unfold glb at h
  split at h
  · show X.env.scope.names.lookup x = _
    rw [e]; assumption
  · cases h
theorem okn_ok {x : Str} (h : okn x = true) : (x == ("__debug__" : Str)) = false ∧ (x == ("__classdict__" : Str)) = false ∧ x ≠ "__name__" := by
  unfold okn at h
  simp only [Bool.and_eq_true, Bool.not_eq_true'] at h
  exact ⟨h.1.1, h.1.2, fun z => by rw [z] at h; exact absurd h.2 (by decide)⟩
theorem slot_ok {X : Cx} {N : List Str} {sc : Scope} {e : Expr} {i : Nat} (en : X.N = N) (es : X.env.scope = sc) (h : slotB N sc e i = true) : PE X e (tVar i) ∧ ∃ x p, e = .Name x p := by
  cases e with
  | Name x p =>
    simp only [slotB, Bool.and_eq_true, decide_eq_true_eq] at h
    obtain ⟨h1, h2, h3⟩ := okn_ok h.2
    exact ⟨pe_var (by rw [en]; exact h.1.1) (vis_ok es h.1.2) h1 h2, x, p, rfl⟩
  | _ => cases h
theorem const_ok {X : Cx} {C : Ctx} {c : Const} {d : D} {j : Nat} {p : Pos} (h : constD c = some d) : PE X (.Constant c j p) (tE X.K C (.c d)) := by
  cases c <;> first
    | (cases h; done)
    | (cases h; exact se_c pe_non fun _ _ => .non)
    | (cases h; exact se_c pe_bl fun _ _ => .bl _)
    | (cases h; exact se_c pe_int fun _ _ => .int _)
    | (cases h; exact se_c pe_str fun _ _ => .str _)
theorem cst_ok {G : Glob} {C : Ctx} {N : List Str} {fo : Str → Bool} {k : Nat} {X : Cx} (g : Good G C N fo k X) {sc : Scope} (es : X.env.scope = sc) {e : Expr} {d : D} (h : cstB G sc e d = true) : PE X e (tE X.K C (.c d)) ∧ ∀ whole, isTrue e X.env whole = (do let v ← whole; standAt e.pos; holding [v] (truthy v)) := by
  cases e with
  | Constant c j p =>
    simp only [cstB] at h
    split at h
    · rename_i d' hd
      have e := same_ok _ _ h
      subst e
      exact ⟨const_ok hd, fun _ => rfl⟩
    · cases h
  | Name x p =>
    simp only [cstB, Bool.and_eq_true] at h
    obtain ⟨⟨h1, h2⟩, h3⟩ := h
    split at h3
    · rename_i d' hd
      have e := same_ok _ _ h3
      subst e
      obtain ⟨u, v, m, r, i⟩ := g.con x _ hd
      exact ⟨se_c (pe_glob (glb_ok es h1) m r (okn_ok h2).1) i, fun _ => rfl⟩
    · cases h3
  | _ => cases h
theorem args_ok {X : Cx} {C : Ctx} {f : Expr → T → Bool} (hf : ∀ e t, f e t = true → PE X e (tE X.K C t)) : ∀ (es : List Expr) (as : List T), chks f es as = true → PA X es (tAs X.K C as) ∧ es.all noStar = true
  | [], [], _ => ⟨sa_nil, rfl⟩
  | [], _ :: _, h => by cases h
  | _ :: _, [], h => by cases h
  | e :: es, a :: as, h => by
    have h : (noStar e && f e a && chks f es as) = true := h
    simp only [Bool.and_eq_true] at h
    obtain ⟨h1, h2⟩ := args_ok hf es as h.2
    exact ⟨sa_cons (hf e a h.1.2) h1 (star_ok h.1.1), by rw [List.all_cons, h.1.1, h2]; rfl⟩
theorem asgE_ok {e : Expr} {es : List Expr} {env : Env} (h : noStar e = true) : assignEach (e :: es) env = (false, assign e env) :: assignEach es env := by
  cases e <;> first | rfl | cases h
theorem args_i {X : Cx} {N : List Str} {sc : Scope} (en : X.N = N) (es : X.env.scope = sc) : ∀ (l : List Expr) (is : List Nat), chkI N sc l is = true → PA X l (lentA is) ∧ l.all noStar = true
  | [], [], _ => ⟨pa_nil, rfl⟩
  | [], _ :: _, h => by cases h
  | _ :: _, [], h => by cases h
  | e :: l, i :: is, h => by
    have h : (noStar e && slotB N sc e i && chkI N sc l is) = true := h
    simp only [Bool.and_eq_true] at h
    obtain ⟨h1, h2⟩ := args_i en es l is h.2
    exact ⟨pa_cons (slot_ok en es h.1.2).1 h1 (star_ok h.1.1), by rw [List.all_cons, h.1.1, h2]; rfl⟩
mutual
theorem tg_ok {X : Cx} {N : List Str} {sc : Scope} {fo : Str → Bool} (hc : X.calm = true) (en : X.N = N) (nd : N.Nodup) (es : X.env.scope = sc) (hf : ∀ x, fo x = true → X.fn x = true) : ∀ (t : Tg) (e : Expr), chkTg N sc fo e t = true → PG X e (gOf X.K t)
  | .nm i, e, h => by
    cases e with
    | Name x p =>
      simp only [chkTg, Bool.and_eq_true, decide_eq_true_eq] at h
      have h2 : L2.Loc X.env.scope x ∧ (X.fn x = true ∨ X.env.scope.names.lookup x = some .local) := by
        have q := h.2
        unfold locB at q
        split at q
        · rename_i z; rw [es]; exact ⟨.inl z, .inr z⟩
        · rename_i z; rw [es]; exact ⟨.inr z, .inl (hf x q)⟩
        · cases q
      exact pg_name (by rw [en]; exact nd) (by rw [en]; exact h.1) h2.1 h2.2
    | _ => simp [chkTg] at h
  | .tup ts, e, h => by
    cases e with
    | Tuple es' k p =>
      have h : chkTgs N sc fo es' ts = true := by simpa only [chkTg] using h
      obtain ⟨h1, h2, h3⟩ := tgs_ok hc en nd es hf ts es' h
      exact pg_tup hc h1 h2 h3
    | _ => simp [chkTg] at h
theorem tgs_ok {X : Cx} {N : List Str} {sc : Scope} {fo : Str → Bool} (hc : X.calm = true) (en : X.N = N) (nd : N.Nodup) (es : X.env.scope = sc) (hf : ∀ x, fo x = true → X.fn x = true) : ∀ (ts : List Tg) (e : List Expr), chkTgs N sc fo e ts = true → PGs X e (gsOf X.K ts) ∧ (assignEach e X.env).length = ts.length ∧ (assignEach e X.env).findIdx? (·.1) = none
  | [], [], h => ⟨pgs_nil, rfl, rfl⟩
  | [], _ :: _, h => by simp [chkTgs] at h
  | _ :: _, [], h => by simp [chkTgs] at h
  | t :: ts, e :: es', h => by
    simp only [chkTgs, Bool.and_eq_true] at h
    obtain ⟨h1, h2, h3⟩ := tgs_ok hc en nd es hf ts es' h.2
    refine ⟨pgs_cons (tg_ok hc en nd es hf t e h.1.2) h1 (by rw [asgE_ok h.1.1]; rfl), by rw [asgE_ok h.1.1]; exact congrArg (· + 1) h2, ?_⟩
    rw [asgE_ok h.1.1, List.findIdx?_cons]
    simp [h3]
end
theorem foldset_ok {e : Expr} {env : Env} (h : noSet e = true) : ∀ x, foldedSetIterable e env x = pure x := fun x => by
  cases e <;> first | rfl | cases h
theorem tup_of {tg : Expr} (h : isTup tg = true) : ∃ es k p, tg = .Tuple es k p := by
  cases tg <;> first | exact ⟨_, _, _, rfl⟩ | cases h
theorem src_ok {G : Glob} {C : Ctx} {N : List Str} {fo : Str → Bool} {k : Nat} {X : Cx} (g : Good G C N fo k X) {sc : Scope} (es : X.env.scope = sc) {f : Expr → T → Bool} (hf : ∀ e t, f e t = true → PE X e (tE X.K C t)) {tg iter : Expr} {sk : SK} {sa : List T} (h : chkSrc sc f tg iter sk sa = true) :
    PI X tg iter (tI X.K C sk sa) ∧ noSet iter = true := by
  cases sk with
  | val =>
    match sa, h with
    | [a], h =>
      have h : (noSet iter && f iter a) = true := h
      rw [Bool.and_eq_true] at h
      exact ⟨si_val (hf _ _ h.2), h.1⟩
  | rng1 =>
    match sa, h with
    | [a], h =>
      simp only [chkSrc] at h
      split at h
      · simp only [Bool.and_eq_true, beq_iff_eq] at h
        obtain ⟨⟨⟨rfl, h2⟩, h3⟩, h4⟩ := h
        exact ⟨si_rng1 (hf _ _ h4) (glb_ok es h2) (g.blt _ (by decide)) h3, rfl⟩
      · cases h
  | rng2 =>
    match sa, h with
    | [a, b], h =>
      simp only [chkSrc] at h
      split at h
      · simp only [Bool.and_eq_true, beq_iff_eq] at h
        obtain ⟨⟨⟨⟨⟨rfl, h2⟩, h3⟩, h4⟩, h5⟩, h6⟩ := h
        exact ⟨si_rng2 (hf _ _ h5) (hf _ _ h6) (glb_ok es h2) (g.blt _ (by decide)) h3 h4, rfl⟩
      · cases h
  | enum =>
    match sa, h with
    | [a], h =>
      simp only [chkSrc] at h
      split at h
      · simp only [Bool.and_eq_true, beq_iff_eq] at h
        obtain ⟨⟨⟨⟨h0, rfl⟩, h2⟩, h3⟩, h4⟩ := h
        obtain ⟨_, _, _, rfl⟩ := tup_of h0
        exact ⟨si_enum (hf _ _ h4) (glb_ok es h2) (g.blt _ (by decide)) h3, rfl⟩
      · cases h
  | zip =>
    exact absurd h (by simp [chkSrc])
theorem md_pt {X : Cx} {C : Ctx} {e : Expr} {t : T} {md : Bool} (h : PE X e (tE X.K C t)) (he : ∀ whole, isTrue e X.env whole = (do let v ← whole; standAt e.pos; holding [v] (truthy v))) : PE X e (tE X.K C t) ∧ (md = true → PT X e (tB2 X.K C t)) := ⟨h, fun _ => st_val h he⟩
theorem opnd_ok {X : Cx} {C : Ctx} {G : Glob} {N : List Str} {n : Nat} {sc : Scope} {fo : Str → Bool} {e : Expr} {t : T} (en : X.N = N) (es : X.env.scope = sc) (h : chk G N n false sc fo e t = true) (hp : PE X e (tE X.K C t)) : PE X e (opnd X.K C t) := by
  cases t with
  | v i => cases n with
    | zero => cases h
    | succ n => exact (slot_ok en es (show slotB N sc e i = true by simpa only [chk] using h)).1
  | _ => exact PE.fz hp
theorem blt_of {X : Cx} {G : Glob} {C : Ctx} {N : List Str} {fo : Str → Bool} {k : Nat} (g : Good G C N fo k X) (f : Bi) (h : biOk f = true) : X.mg (biName f) = none ∧ bootBuiltins (biName f) = some (fval f) ∧ fval f ≠ .none ∧ f ≠ .sorted ∧ biName f ≠ "__name__" ∧ (biName f == ("__debug__" : Str)) = false := by
  cases f <;> first
    | (cases h; done)
    | exact ⟨g.blt _ (by decide), by decide +kernel, (by intro h; cases h), (by intro h; cases h), by decide, by decide⟩
theorem kName_b (k : Kd) : Str.ofString (kName k) ∈ (["len", "abs", "all", "any", "max", "min", "tuple", "list", "range", "enumerate", "zip", "isinstance", "int", "bool", "str", "sorted"] : List Str) ∧ bootBuiltins (Str.ofString (kName k)) = some (.type (kName k)) ∧ Str.ofString (kName k) ≠ "__name__" ∧ ((Str.ofString (kName k)) == ("__debug__" : Str)) = false := by
  cases k <;> exact ⟨by decide, by decide +kernel, by decide, by decide⟩
end Lm
set_option Elab.async false
set_option linter.all false
set_option maxRecDepth 100000
set_option maxHeartbeats 8000000
/-! The look is enough, expressions. -/
namespace Lm
open PySem L2

theorem ends_eq (a b : Str) : Txt.endswith a b = decide (b.cps.toList <:+ a.cps.toList) := by
  rw [Bool.eq_iff_iff, decide_eq_true_iff]
  show (decide (0 + b.length ≤ a.length) && Builtin.Str.subAt a b (a.length - b.length)) = true ↔ _
  unfold Builtin.Str.subAt
  rw [Bool.and_eq_true, decide_eq_true_iff, beq_iff_eq]
  have la := len_str a
  have lb := len_str b
  constructor
  · rintro ⟨h1, h2⟩
    have h3 := congrArg Array.toList h2
    rw [Array.toList_extract] at h3
    simp only [List.extract_eq_drop_take] at h3
    rw [← h3]
    refine List.IsSuffix.trans ?_ (List.drop_suffix (a.length - b.length) a.cps.toList)
    have e : a.length - b.length + b.length - (a.length - b.length) = b.length := by omega
    rw [e, List.take_of_length_le (by rw [List.length_drop]; omega)]
    exact List.suffix_refl _
  · rintro ⟨t, h⟩
    have hl : b.length ≤ a.length := by rw [la, lb, ← h, List.length_append]; omega
    refine ⟨by omega, ?_⟩
    apply Array.toList_inj.mp
    rw [Array.toList_extract]
    simp only [List.extract_eq_drop_take]
    have e : a.length - b.length + b.length - (a.length - b.length) = b.length := by omega
    rw [e, List.take_of_length_le (by rw [List.length_drop]; omega), ← h, la, lb, ← h, List.length_append]
    have : t.length + b.cps.toList.length - b.cps.toList.length = t.length := by omega
    rw [this, List.drop_left]
theorem join_list (sep : Str) : ∀ ys : List Str, (Str.join sep ys).cps.toList = joinL sep.cps.toList (ys.map fun y => y.cps.toList)
  | [] => rfl
  | [a] => by simp [Str.join, joinL]
  | a :: b :: r => by
    have ih := join_list sep (b :: r)
    simp only [List.map_cons] at ih
    show ((a ++ sep ++ Str.join sep (b :: r)) : Str).cps.toList = a.cps.toList ++ (sep.cps.toList ++ joinL sep.cps.toList (b.cps.toList :: r.map fun y => y.cps.toList))
    rw [← ih, ← List.append_assoc]
    have e : ∀ x y : Str, (x ++ y).cps.toList = x.cps.toList ++ y.cps.toList := fun x y => Array.toList_append
    rw [e, e]
theorem join_len (sep : List Nat) : ∀ l : List (List Nat), (l.map (·.length)).sum ≤ (joinL sep l).length
  | [] => Nat.le_refl _
  | [a] => by simp [joinL]
  | a :: b :: r => by
    have ih := join_len sep (b :: r)
    show a.length + ((b :: r).map (·.length)).sum ≤ (a ++ (sep ++ joinL sep (b :: r))).length
    rw [List.length_append, List.length_append]
    omega
section
variable {X : Cx} {C : Ctx} {e o : Expr} {a b : T} {apos p : Pos}
theorem evb2 (s : S) : evb [a, b] (fun s => evs C [a, b] s) s = (ev C a s).bind fun x s1 => (ev C b s1).bind fun y s2 => .ok [x.1, y.1] s2 := by
  have e : evb [a, b] (fun s => evs C [a, b] s) s = evs C [a, b] s := by cases a <;> rfl
  rw [e, evs2]
theorem se_ends (ho : PE X o (tE X.K C a)) (he : PE X e (tE X.K C b)) (hst : noStar e = true) (hb : noSuper o = true) (hl : (apos.endLine == p.line) = true) : PE X (.Call (.Attribute o "endswith" apos) [e] [] p) (tE X.K C (.bi .ends [a, b])) :=
  PE.imp (pe_m1 PySem.F.slot_str_endswith PySem.F.type_str_endswith mt_endswith (PE.fz ho) (PE.fz he) (star_ok hst) (base_ok hb) hl) fun σ H Q ⟨w, R, P⟩ => by
    have P : Post X.K w σ H ((evb [a, b] (fun s => evs C [a, b] s) w.s).bind fun ds s1 => Lm.R.of (biD .ends ds) s1) _ := P
    rw [evb2, Lm.R.bind_assoc] at P
    refine tF_of R (Post.bind P) fun x w1 H1 v R1 S1 P1 i1 => ?_
    simp only [Lm.R.bind_assoc, Lm.R.bind_ok] at P1
    obtain ⟨r, sF, hF⟩ := ok_of P1
    obtain ⟨y0, s2, h2, h3⟩ := bind_ok_inv hF
    obtain ⟨x, ox⟩ := x
    have hx : ∃ l, x = .str l := by cases x <;> first | exact ⟨_, rfl⟩ | cases h3
    obtain ⟨l, rfl⟩ := hx
    cases i1 with
    | str z =>
      refine ⟨⟨z, rfl⟩, ?_⟩
      refine tF_of R1 (Post.bind P1) fun y w2 H2 u R2 S2 P2 i2 => ?_
      obtain ⟨d, hd, P3⟩ := Post.of P2
      have P4 := Post.here R2 P3
      obtain ⟨y, oy⟩ := y
      cases i2 with
      | str z2 =>
        have hd : (if z.cps.toList.length ≤ lim ∧ z2.cps.toList.length ≤ lim then some (D.bl (decide (z2.cps.toList <:+ z.cps.toList)), false) else none) = some d := hd
        obtain ⟨_, rfl⟩ := ite_some hd
        exact ⟨z, z2, rfl, rfl, by rw [ends_eq]; exact P4 _ (.bl _)⟩
      | _ => cases hd
theorem se_join (ho : PE X o (tE X.K C a)) (he : PE X e (tE X.K C b)) (hst : noStar e = true) (hb : noSuper o = true) (hl : (apos.endLine == p.line) = true) : PE X (.Call (.Attribute o "join" apos) [e] [] p) (tE X.K C (.bi .join [a, b])) :=
  PE.imp (pe_join (PE.fz ho) (PE.fz he) (star_ok hst) (base_ok hb) hl) fun σ H Q ⟨w, R, P⟩ => by
    have P : Post X.K w σ H ((evb [a, b] (fun s => evs C [a, b] s) w.s).bind fun ds s1 => Lm.R.of (biD .join ds) s1) _ := P
    rw [evb2, Lm.R.bind_assoc] at P
    refine tF_of R (Post.bind P) fun x w1 H1 v R1 S1 P1 i1 => ?_
    simp only [Lm.R.bind_assoc, Lm.R.bind_ok] at P1
    obtain ⟨r, sF, hF⟩ := ok_of P1
    obtain ⟨y0, s2, h2, h3⟩ := bind_ok_inv hF
    obtain ⟨x, ox⟩ := x
    have hx : ∃ l, x = .str l := by cases x <;> first | exact ⟨_, rfl⟩ | cases h3
    obtain ⟨l, rfl⟩ := hx
    cases i1 with
    | str z =>
      refine ⟨⟨z, rfl⟩, ?_⟩
      refine tF_of R1 (Post.bind P1) fun y w2 H2 u R2 S2 P2 i2 => ?_
      obtain ⟨d, hd, P3⟩ := Post.of P2
      have P4 := Post.here R2 P3
      obtain ⟨y, oy⟩ := y
      cases i2 with
      | lst h r =>
        rename_i ds
        obtain ⟨ss, hs, hd⟩ := Option.bind_eq_some_iff.mp (show (strsD ds).bind (fun ss => if (joinL z.cps.toList ss).length ≤ lim ∧ ss.length ≤ lim ∧ z.cps.toList.length ≤ 3 then some (D.str (joinL z.cps.toList ss), false) else none) = some d from hd)
        obtain ⟨⟨c1, c2, c3⟩, rfl⟩ := ite_some hd
        obtain ⟨ys, rfl, rfl⟩ := r.strsD hs
        refine ⟨z, _, ys, rfl, rfl, .inl (SqL.of (R2.ex _ _ h)), ?_, ?_⟩
        · have q := join_len z.cps.toList (ys.map fun y => y.cps.toList)
          rw [List.map_map] at q
          have q2 : (ys.map (·.length)).sum = (ys.map ((·.length) ∘ fun y : Str => y.cps.toList)).sum := by
            congr 1
          rw [List.length_map] at c2
          rw [q2, len_str z]
          have q3 : ys.length * z.cps.toList.length ≤ lim * 3 := Nat.mul_le_mul c2 c3
          have : lim = 1000000 := rfl
          omega
        · rw [show Txt.join z ys = Str.join z ys from PySem.StrLaws.glued_eq_join z ys]
          refine P4 _ ?_
          rw [← join_list]
          exact .str _
      | _ => cases hd
end
end Lm
namespace Lm
open PySem L2
theorem se_rev {X : Cx} {C : Ctx} {e : Expr} {a : T} {k : Nat} {p1 p2 p3 pos : Pos} (he : PE X e (tE X.K C a)) : PE X (.Subscript e (.Slice none none (some (.UnaryOp .USub (.Constant (.int 1) k p1) p2)) p3) pos) (tE X.K C (.rev a)) :=
  PE.imp (pe_revL (PE.fz he)) fun σ H Q ⟨w, R, P⟩ => by
    refine tF_of R (Post.bind P) fun x w1 H1 v R1 S1 P1 i1 => ?_
    obtain ⟨x, o⟩ := x
    cases i1 with
    | lst h r => exact ⟨_, _, rfl, SqL.of (R1.ex _ _ h), Got.lst S1.live R1 P1 r.reverse⟩
    | _ => exact P1.elim
def isBO : Expr → Bool
  | .BoolOp _ _ _ => true
  | _ => false
/-- as a value; as a test; as a test whatever its whole is -/
def Res (X : Cx) (C : Ctx) (md : Bool) (e : Expr) (t : T) : Prop := PE X e (tE X.K C t) ∧ (md = true → PT X e (tB2 X.K C t)) ∧ (md = true → isBO e = true → PW X e (tB2 X.K C t))
theorem res_v {X : Cx} {C : Ctx} {e : Expr} {t : T} {md : Bool} (h : PE X e (tE X.K C t)) (hb : isBO e = false) (he : ∀ whole, isTrue e X.env whole = (do let v ← whole; standAt e.pos; holding [v] (truthy v))) : Res X C md e t := ⟨h, fun _ => st_val h he, fun _ q => by rw [hb] at q; cases q⟩
theorem cst_bo {G : Glob} {sc : Scope} {e : Expr} {d : D} (h : cstB G sc e d = true) : isBO e = false := by cases e <;> first | rfl | cases h
theorem lc_prem {G : Glob} {C : Ctx} {N : List Str} {fo : Str → Bool} {k n : Nat} {md : Bool} {X : Cx} {sc scope : Scope} {y tg' it : Expr} {ifs : List Expr} {as0 : Int} {p : Pos} {own : List Nat} {tg : Tg} {sk : SK} {sa : List T} {cond : Option T} {elt : T}
    (g : Good G C N fo k X) (es : X.env.scope = sc) (ih : ∀ (md : Bool) (sc : Scope) (fo : Str → Bool) (X : Cx) (e : Expr) (t : T), Good G C N fo k X → X.env.scope = sc → chk G N n md sc fo e t = true → Res X C md e t)
    (h : chk G N (n + 1) md sc fo (.ListComp y [⟨tg', it, ifs, as0⟩] scope p) (.lc own tg sk sa cond elt) = true) :
    as0 = 0 ∧ PI X tg' it (tI X.K C sk sa) ∧ BlkOk X.N X.env.scope scope (ownP N own) ∧
      (∀ (s : Shared) (H : Hp) (c : Addr) (cl : List (Str × Addr)) (fp : List Addr), PG (X.blk s H scope (compEnvC scope cl c X.env) fp) tg' (gOf X.K tg)) ∧
      (∀ (s : Shared) (H : Hp) (c : Addr) (cl : List (Str × Addr)) (fp : List Addr), PTs (X.blk s H scope (compEnvC scope cl c X.env) fp) ifs (tC2 X.K C cond)) ∧
      (∀ (s : Shared) (H : Hp) (c : Addr) (cl : List (Str × Addr)) (fp : List Addr), PE (X.blk s H scope (compEnvC scope cl c X.env) fp) y (tF X.K C elt)) ∧
      (∀ j ∈ slotsT tg, j ∈ own) ∧ (ownP N own).map (·.2) = own ∧ (∀ x, foldedSetIterable it X.env x = pure x) := by
  have ihE : ∀ e t, chk G N n false sc fo e t = true → PE X e (tE X.K C t) := fun e t h => (ih false sc fo X e t g es h).1
  have h0 : as0 = 0 := by
    simp only [chk] at h
    split at h
    · rename_i e; simp only [Expr.ListComp.injEq, List.cons.injEq, Comprehension.mk.injEq] at e; exact e.2.1.1.2.2.2
    · cases h
  subst h0
  simp only [chk, Bool.and_eq_true] at h
  obtain ⟨⟨⟨⟨⟨⟨h1, h2⟩, h3⟩, h4⟩, h5⟩, h6⟩, h7⟩ := h
  have hb := blkOk_by h1
  have eo : (ownP N own).map (·.2) = own := by unfold ownP; simp [Function.comp_def]
  have hsub : ∀ j ∈ slotsT tg, j ∈ own := fun j hj => by simpa using List.all_eq_true.mp h3 j hj
  have gb := fun (s : Shared) (H : Hp) (c : Addr) (cl : List (Str × Addr)) (fp : List Addr) => g.blk s H scope cl c fp
  refine ⟨rfl, (src_ok g es ihE h4).1, by rw [g.n, es]; exact hb, fun s H c cl fp => tg_ok (X := X.blk s H scope (compEnvC scope cl c X.env) fp) g.calm g.n g.nd (by rw [← es]; rfl) (fun x h => h) tg tg' h5, ?_,
    fun s H c cl fp => PE.fz (ih false _ _ _ _ _ (gb s H c cl fp) (by rw [← es]; rfl) h7).1, hsub, eo, foldset_ok h2⟩
  intro s H c cl fp
  have gg := gb s H c cl fp
  match ifs, cond, h6 with
  | [], none, _ => exact sc_nil (X := X.blk s H scope (compEnvC scope cl c X.env) fp)
  | [z], some t, h6 => exact sc_one (X := X.blk s H scope (compEnvC scope cl c X.env) fp) ((ih true _ _ _ _ _ gg (by rw [← es]; rfl) h6).2.1 rfl)
  | [], some _, h6 => cases h6
  | [_], none, h6 => cases h6
  | _ :: _ :: _, _, h6 => cases h6
/-- an expression's look is enough -/
theorem chk_ok {G : Glob} {C : Ctx} {N : List Str} {k : Nat} : ∀ (n : Nat) (md : Bool) (sc : Scope) (fo : Str → Bool) (X : Cx) (e : Expr) (t : T), Good G C N fo k X → X.env.scope = sc → chk G N n md sc fo e t = true → Res X C md e t := by
  intro n
  induction n with
  | zero => intro md sc fo X e t g es h; cases h
  | succ n ih =>
    intro md sc fo X e t g es h
    have ihE : ∀ e t, chk G N n false sc fo e t = true → PE X e (tE X.K C t) := fun e t h => (ih false sc fo X e t g es h).1
    have ihO : ∀ e t, chk G N n false sc fo e t = true → PE X e (opnd X.K C t) := fun e t h => opnd_ok g.n es h (ihE e t h)
    cases t with
    | v i =>
      obtain ⟨h1, x, p, rfl⟩ := slot_ok g.n es (show slotB N sc e i = true by simpa only [chk] using h)
      exact res_v (se_v h1) rfl fun _ => rfl
    | c d =>
      obtain ⟨h1, h2⟩ := cst_ok g es (show cstB G sc e d = true by simpa only [chk] using h)
      exact res_v h1 (cst_bo (show cstB G sc e d = true by simpa only [chk] using h)) h2
    | tup as =>
      cases e with
      | Tuple es' k' p =>
        obtain ⟨h1, _⟩ := args_ok ihE es' as (by simpa only [chk] using h)
        exact res_v (se_tup h1) rfl fun _ => rfl
      | _ => simp [chk] at h
    | lst as =>
      cases e with
      | List es' p =>
        obtain ⟨h1, _⟩ := args_ok ihE es' as (by simpa only [chk] using h)
        exact res_v (se_lst h1) rfl fun _ => rfl
      | _ => simp [chk] at h
    | bin o a b =>
      cases e with
      | BinOp x p y pos =>
        simp only [chk, Bool.and_eq_true] at h
        obtain ⟨⟨h1, h2⟩, h3⟩ := h
        rw [opIs_ok h1]
        exact res_v (se_bin (ihE _ _ h2) (ihE _ _ h3)) rfl fun _ => rfl
      | _ => simp [chk] at h
    | neg a =>
      cases e with
      | UnaryOp op x p =>
        cases op with
        | USub => exact res_v (se_neg (ihE _ _ (by simpa only [chk] using h))) rfl fun _ => rfl
        | _ => simp [chk] at h
      | _ => simp [chk] at h
    | not_ a =>
      cases e with
      | UnaryOp op x p =>
        cases op with
        | Not =>
          obtain ⟨h1, h2, _⟩ := ih md sc fo X x a g es (by simpa only [chk] using h)
          exact ⟨se_not h1, fun m => st_not (h2 m), fun _ q => by cases q⟩
        | _ => simp [chk] at h
      | _ => simp [chk] at h
    | and_ a b =>
      cases e with
      | BoolOp op es' p =>
        cases op with
        | And =>
          match es', h with
          | [x, y], h =>
            simp only [chk, Bool.and_eq_true] at h
            obtain ⟨a1, a2, _⟩ := ih md sc fo X x a g es h.1
            obtain ⟨b1, b2, _⟩ := ih md sc fo X y b g es h.2
            have pw := fun m => st_and (op := .And) (pos := p) (a2 m) (pw_and1 (b2 m))
            exact ⟨se_and a1 (PE.imp (pe_one b1) fun _ _ _ h => h), fun m => (pw m).pt, fun m _ => pw m⟩
          | x :: y :: z :: r, h =>
            simp only [chk, Bool.and_eq_true] at h
            obtain ⟨h1, h2⟩ := h
            obtain ⟨a1, a2, _⟩ := ih md sc fo X x a g es h1
            cases b with
            | and_ b1 b2 =>
              obtain ⟨c1, _, c3⟩ := ih md sc fo X _ _ g es h2
              have pw := fun m => st_and (op := .And) (a2 m) (c3 m rfl)
              exact ⟨se_and a1 c1, fun m => (pw m).pt, fun m _ => pw m⟩
            | _ => cases h2
          | [], h => simp [chk] at h
          | [_], h => simp [chk] at h
        | Or => simp [chk] at h
      | _ => simp [chk] at h
    | or_ a b =>
      cases e with
      | BoolOp op es' p =>
        cases op with
        | Or =>
          match es', h with
          | [x, y], h =>
            simp only [chk, Bool.and_eq_true] at h
            obtain ⟨a1, a2, _⟩ := ih md sc fo X x a g es h.1
            obtain ⟨b1, b2, _⟩ := ih md sc fo X y b g es h.2
            have pw := fun m => st_or (op := .Or) (pos := p) (a2 m) (pw_or1 (b2 m))
            exact ⟨se_or a1 (PE.imp (pe_one b1) fun _ _ _ h => h), fun m => (pw m).pt, fun m _ => pw m⟩
          | x :: y :: z :: r, h =>
            simp only [chk, Bool.and_eq_true] at h
            obtain ⟨h1, h2⟩ := h
            obtain ⟨a1, a2, _⟩ := ih md sc fo X x a g es h1
            cases b with
            | or_ b1 b2 =>
              obtain ⟨c1, _, c3⟩ := ih md sc fo X _ _ g es h2
              have pw := fun m => st_or (op := .Or) (a2 m) (c3 m rfl)
              exact ⟨se_or a1 c1, fun m => (pw m).pt, fun m _ => pw m⟩
            | _ => cases h2
          | [], h => simp [chk] at h
          | [_], h => simp [chk] at h
        | And => simp [chk] at h
      | _ => simp [chk] at h
    | cmp o a b =>
      cases e with
      | Compare x ops ys pos =>
        match ops, ys, h with
        | [p], [y], h =>
          simp only [chk, Bool.and_eq_true, Bool.not_eq_true'] at h
          obtain ⟨⟨⟨h1, h2⟩, h3⟩, h4⟩ := h
          rw [cIs_ok h1] at h4 ⊢
          obtain ⟨q1, q2⟩ := se_cmp (C := C) (pos := pos) g.room.units (ihO _ _ h2) (ihO _ _ h3) h4
          exact ⟨q1, fun _ => q2, fun _ q => by cases q⟩
        | [], _, h => simp [chk] at h
        | [_], [], h => simp [chk] at h
        | [_], _ :: _ :: _, h => simp [chk] at h
        | _ :: _ :: _, _, h => simp [chk] at h
      | _ => simp [chk] at h
    | chain o p a b c =>
      cases e with
      | Compare x ops ys pos =>
        match ops, ys, h with
        | [o', p'], [y, z], h =>
          simp only [chk, Bool.and_eq_true, Bool.not_eq_true'] at h
          obtain ⟨⟨⟨⟨⟨h1, h2⟩, h3⟩, h4⟩, h5⟩, h6⟩ := h
          rw [cIs_ok h1, cIs_ok h2] at h6 ⊢
          obtain ⟨q1, q2⟩ := se_chain (C := C) (pos := pos) g.room.units (ihE _ _ h3) (ihE _ _ h4) (ihE _ _ h5) h6
          exact ⟨q1, fun _ => q2, fun _ q => by cases q⟩
        | [], _, h => simp [chk] at h
        | [_], _, h => simp [chk] at h
        | [_, _], [], h => simp [chk] at h
        | [_, _], [_], h => simp [chk] at h
        | [_, _], _ :: _ :: _ :: _, h => simp [chk] at h
        | _ :: _ :: _ :: _, _, h => simp [chk] at h
      | _ => simp [chk] at h
    | ife c a b =>
      cases e with
      | IfExp z x y p =>
        simp only [chk, Bool.and_eq_true, Bool.not_eq_true'] at h
        obtain ⟨⟨⟨h0, h1⟩, h2⟩, h3⟩ := h
        exact ⟨se_ife ((ih true sc fo X z c g es h1).2.1 rfl) (ihE _ _ h2) (ihE _ _ h3), (fun m => by rw [h0] at m; cases m), fun _ q => by cases q⟩
      | _ => simp [chk] at h
    | ix a i =>
      cases e with
      | Subscript x y p =>
        simp only [chk, Bool.and_eq_true] at h
        exact res_v (se_ix (ihO _ _ h.1.2) (ihO _ _ h.2) h.1.1) rfl fun _ => rfl
      | _ => simp [chk] at h
    | sl a lo hi =>
      cases e with
      | Subscript x y p =>
        cases y with
        | Slice l hh st p2 =>
          cases st with
          | none =>
            simp only [chk, Bool.and_eq_true] at h
            obtain ⟨⟨h1, h2⟩, h3⟩ := h
            have part : ∀ (l : Option Expr) (t : T), chkPart (chk G N n false sc fo) l t = true → PO X l (partT X.K C t) := by
              intro l t h
              cases l with
              | none => cases t <;> first | exact po_none | (cases h; done)
              | some l => cases t <;> first | (cases h; done) | exact so_some (ihE _ _ h)
            exact res_v (se_sl (ihE _ _ h1) (part l lo h2) (part hh hi h3)) rfl fun _ => rfl
          | some _ => simp [chk] at h
        | _ => simp [chk] at h
      | _ => simp [chk] at h
    | rev a =>
      simp only [chk] at h
      split at h
      · exact res_v (se_rev (ihE _ _ h)) rfl fun _ => rfl
      · cases h
    | callb f is =>
      simp only [chk] at h
      split at h
      · simp only [Bool.and_eq_true] at h
        obtain ⟨⟨⟨⟨h1, h2⟩, h3⟩, h4⟩, h5⟩ := h
        have e1 := eq_of_beq h1
        subst e1
        rename_i x px y ys pp
        cases q : G.fn.lookup x with
        | none => rw [q] at h4; cases h4
        | some m =>
          obtain ⟨fa, fd, ps, e1, e2, e3, e4, e5⟩ := g.fn x m q
          obtain ⟨a1, a2⟩ := args_i g.n es _ _ h5
          exact res_v (se_callb (by rw [← e1] at e5; exact e5) g.room (glb_ok es h2) e2 e3 e4 a1 (okn_ok h3).1 a2 (fun ds g' p s hh => by rw [e1]; exact g.ar x m q ds g' p s hh)) rfl fun _ => rfl
      · cases h
    | calld f as dl =>
      simp only [chk] at h
      split at h
      · simp only [Bool.and_eq_true] at h
        obtain ⟨⟨⟨⟨⟨h1, h2⟩, h3⟩, h4⟩, h5⟩, h6⟩ := h
        have e1 := eq_of_beq h1
        subst e1
        rename_i x px y ys pp
        cases q : G.fn.lookup x with
        | none => rw [q] at h4; cases h4
        | some m =>
          cases q2 : G.dfl.lookup x with
          | none => rw [q2] at h5; cases h5
          | some dl' =>
            rw [q2] at h5
            have e2 := sames_ok _ _ h5
            subst e2
            obtain ⟨fa, fd, ps, dus, dvs, e1, e2, e3, e4, e5, e6, e7⟩ := g.fnd x m _ q q2
            obtain ⟨a1, a2⟩ := args_ok ihE _ _ h6
            exact res_v (se_calld (by rw [← e1] at e7; exact e7) g.room (glb_ok es h2) e2 e3 e4 e5 e6 a1 (okn_ok h3).1 a2 (fun ds g' p s hh => by rw [e1]; exact g.ar x m q ds g' p s hh)) rfl fun _ => rfl
      · cases h
    | callc f i a =>
      simp only [chk] at h
      split at h
      · simp only [Bool.and_eq_true] at h
        obtain ⟨⟨⟨⟨⟨⟨⟨h1, h2⟩, h3⟩, h4⟩, h5⟩, h6⟩, h7⟩, h8⟩ := h
        have e1 := eq_of_beq h1
        subst e1
        rename_i x px y z pp
        cases q : G.fn.lookup x with
        | none => rw [q] at h4; cases h4
        | some m =>
          obtain ⟨fa, fd, ps, e1, e2, e3, e4, e5⟩ := g.fn x m q
          exact res_v (se_callc (by rw [← e1] at e5; exact e5) g.room (glb_ok es h2) e2 e3 e4 (slot_ok g.n es h5).1 (ihE _ _ h8) (okn_ok h3).1 h6 h7 (fun ds g' p s hh => by rw [e1]; exact g.ar x m q ds g' p s hh)) rfl fun _ => rfl
      · cases h
    | maxd a d =>
      simp only [chk] at h
      split at h
      · simp only [Bool.and_eq_true] at h
        obtain ⟨⟨⟨⟨⟨h1, h2⟩, h3⟩, h4⟩, h5⟩, h6⟩ := h
        have e1 := eq_of_beq h1
        have e2 := eq_of_beq h2
        have e3 := eq_of_beq h3
        subst e1 e2 e3
        exact res_v (se_maxd rfl g.calm (glb_ok es h4) (g.blt _ (by decide)) (ihE _ _ h6) h5) rfl fun _ => rfl
      · cases h
    | call f as =>
      cases e with
      | Call fn es' kws p =>
        cases fn with
        | Name x px =>
          match es', kws, h with
          | y :: ys, [], h =>
            simp only [chk, Bool.and_eq_true, beq_iff_eq] at h
            obtain ⟨⟨⟨⟨rfl, h2⟩, h3⟩, h4⟩, h5⟩ := h
            cases q : G.fn.lookup x with
            | none => rw [q] at h4; cases h4
            | some m =>
              obtain ⟨fa, fd, ps, e1, e2, e3, e4, e5⟩ := g.fn x m q
              obtain ⟨a1, a2⟩ := args_ok ihE _ _ h5
              have q2 := se_call (ds0 := []) (pos := p) (p := px) (by rw [← e1] at e5; exact e5) g.room (glb_ok es h2) e2 e3 e4 .nil (fun _ _ => .nil) a1 (okn_ok h3).1 a2 (fun ds g' p s hh => by rw [e1]; exact g.ar x m q ds g' p s hh)
              have e : as ++ ([] : List D).map T.c = as := by simp
              rw [e] at q2
              exact res_v q2 rfl fun _ => rfl
          | [], _, h => simp [chk] at h
          | _ :: _, _ :: _, h => simp [chk] at h
        | _ => simp [chk] at h
      | _ => simp [chk] at h
    | bi f as =>
      by_cases hf : f = .ends
      · subst hf
        obtain ⟨o, ap, x, p, a, b, rfl, rfl, h2, h3, h4, h5, h6⟩ := chkM_ok (show chkM "endswith" (chk G N n false sc fo) e as = true by simpa only [chk] using h)
        exact res_v (se_ends (ihE _ _ h5) (ihE _ _ h6) h4 h2 h3) rfl fun _ => rfl
      · by_cases hf2 : f = .join
        · subst hf2
          obtain ⟨o, ap, x, p, a, b, rfl, rfl, h2, h3, h4, h5, h6⟩ := chkM_ok (show chkM "join" (chk G N n false sc fo) e as = true by simpa only [chk] using h)
          exact res_v (se_join (ihE _ _ h5) (ihE _ _ h6) h4 h2 h3) rfl fun _ => rfl
        · have h' : chkB sc f (chk G N n false sc fo) e as = true := by
            cases f <;> first | exact absurd rfl hf | exact absurd rfl hf2 | simpa only [chk] using h
          obtain ⟨px, y, p, a, rfl, rfl, h1, h3, h4, h5⟩ := chkB_ok h'
          obtain ⟨q1, q2, q3, q4, q5, q6⟩ := blt_of g f h1
          have ha : PA X [y] (tLook X.K C [a]) := by
            rcases isV a with ⟨i, rfl⟩ | hv
            · exact pa_cons (ihO _ _ h5) pa_nil (star_ok h4)
            · have e : tLook X.K C [a] = tAs X.K C [a] := by cases a <;> first | exact absurd rfl (hv _) | rfl
              rw [e]
              exact sa_cons (ihE _ _ h5) sa_nil (star_ok h4)
          exact res_v (se_bi g.calm (glb_ok es h3) q1 q2 q3 q4 ha q5 q6 (by simp [h4])) rfl fun _ => rfl
    | isi a k' =>
      cases e with
      | Call fn es' kws p =>
        cases fn with
        | Name x px =>
          match es', kws, h with
          | [y, .Name z pz], [], h =>
            simp only [chk, Bool.and_eq_true, beq_iff_eq] at h
            obtain ⟨⟨⟨⟨⟨rfl, h2⟩, rfl⟩, h4⟩, h5⟩, h6⟩ := h
            obtain ⟨k1, k2, k3, k4⟩ := kName_b k'
            exact res_v (se_isi (ihE _ _ h6) h5 (glb_ok es h2) (g.blt _ (by decide)) (glb_ok es h4) (g.blt _ k1) k2 k3 k4) rfl fun _ => rfl
          | [], _, h => simp [chk] at h
          | [_], _, h => simp [chk] at h
          | [_, _], _ :: _, h => simp [chk] at h
          | _ :: _ :: _ :: _, _, h => simp [chk] at h
          | [_, .BoolOp _ _ _], [], h | [_, .NamedExpr _ _ _], [], h | [_, .BinOp _ _ _ _], [], h | [_, .UnaryOp _ _ _], [], h | [_, .Lambda _ _ _ _], [], h | [_, .IfExp _ _ _ _], [], h | [_, .Dict _ _ _], [], h | [_, .Set _ _ _], [], h | [_, .ListComp _ _ _ _], [], h
          | [_, .SetComp _ _ _ _], [], h | [_, .DictComp _ _ _ _ _], [], h | [_, .GeneratorExp _ _ _ _], [], h | [_, .Await _ _], [], h | [_, .Yield _ _], [], h | [_, .YieldFrom _ _], [], h | [_, .Compare _ _ _ _], [], h | [_, .Call _ _ _ _], [], h | [_, .FormattedValue _ _ _ _], [], h
          | [_, .JoinedStr _ _], [], h | [_, .Constant _ _ _], [], h | [_, .Attribute _ _ _], [], h | [_, .Subscript _ _ _], [], h | [_, .Starred _ _], [], h | [_, .List _ _], [], h | [_, .Tuple _ _ _], [], h | [_, .Slice _ _ _ _], [], h => simp [chk] at h
        | _ => simp [chk] at h
      | _ => simp [chk] at h
    | pop0 i =>
      cases e with
      | Call fn es' kws p =>
        cases fn with
        | Attribute o m ap =>
          match es', kws, h with
          | [], [], h =>
            simp only [chk, Bool.and_eq_true] at h
            obtain ⟨⟨⟨h1, h2⟩, h3⟩, h4⟩ := h
            obtain rfl : m = "pop" := by simpa using h1
            exact res_v (se_pop0 (slot_ok g.n es h4).1 h2 h3) rfl fun _ => rfl
          | _ :: _, _, h => simp [chk] at h
          | [], _ :: _, h => simp [chk] at h
        | _ => simp [chk] at h
      | _ => simp [chk] at h
    | pop1 i a =>
      cases e with
      | Call fn es' kws p =>
        cases fn with
        | Attribute o m ap =>
          match es', kws, h with
          | [x], [], h =>
            simp only [chk, Bool.and_eq_true] at h
            obtain ⟨⟨⟨⟨⟨h1, h2⟩, h3⟩, h4⟩, h5⟩, h6⟩ := h
            obtain rfl : m = "pop" := by simpa using h1
            exact res_v (se_pop1 (slot_ok g.n es h4).1 (ihE _ _ h6) h5 h2 h3) rfl fun _ => rfl
          | [], _, h => simp [chk] at h
          | [_], _ :: _, h => simp [chk] at h
          | _ :: _ :: _, _, h => simp [chk] at h
        | _ => simp [chk] at h
      | _ => simp [chk] at h
    | lc own tg sk sa cond elt =>
      cases e with
      | ListComp y gens scope p =>
        match gens, h with
        | [⟨tg', it, ifs, as0⟩], h =>
          obtain ⟨rfl, q1, q2, q3, q4, q5, hsub, eo, q6⟩ := lc_prem g es ih h
          have q := pe_lc (pos := p) (X := X) (own := ownP N own) (tt := tC2 X.K C cond) (te := tF X.K C elt) (g := gOf X.K tg) g.calm (by rw [g.n]; exact g.nd) q1 q2 q3 q4 q5 q6
          rw [eo] at q
          exact res_v (PE.imp q fun σ H Q hh => lc_read hsub hh) rfl fun _ => rfl
        | [], h => simp [chk] at h
        | _ :: _ :: _, h => simp [chk] at h
      | _ => simp [chk] at h
    | none_ => simp [chk] at h
end Lm
set_option Elab.async false
set_option linter.all false
set_option maxRecDepth 100000
set_option maxHeartbeats 8000000
/-! The look at statements, and why it is enough. -/
namespace Lm
open PySem L2

def noComp : Expr → Bool
  | .ListComp _ _ _ _ => false
  | .SetComp _ _ _ _ => false
  | .DictComp _ _ _ _ _ => false
  | _ => true
/-- name = [..] -/
def compB (sc : Scope) (x : Str) (px : Pos) : Expr → Bool
  | .ListComp _ _ scope p => match sc.names.lookup x with
    | some .local => px.line == p.line && !(scope.names.any fun (n, k) => n == x && (k == .local || k == .cell))
    | some .cell => true
    | _ => false
  | _ => false
def parB (N : List Str) (sc : Scope) (f : Expr → T → Bool) : Expr → Expr → Tg → T → Bool
  | .Tuple [.Name x px, .Name y py] _ _, .Tuple [a, b] _ _, .tup [.nm i, .nm j], .tup [s, t] =>
    decide (N[i]? = some x) && decide (N[j]? = some y) && !(x == y) && decide (sc.names.lookup x = some .local) && decide (sc.names.lookup y = some .local) && px.line == py.line && noStar a && noStar b
      && !([a, b].all (foldedForSure 8)) && !([a, b].all (constantsAlone 8)) && f a s && f b t
  | _, _, _, _ => false
def chkS (G : Glob) (N : List Str) : Nat → Scope → (Str → Bool) → Stmt → Q → Bool
  | 0, _, _, _, _ => false
  | n + 1, sc, fo, st, q => match q with
    | .asg tg e => match st with
      | .Assign [x] v _ => match tg with
        | .nm i => match x with
          | .Name y py => decide (N[i]? = some y) && locB sc fo y && chk G N (n + 1) false sc fo v e && (noComp v || (compB sc y py v && (match e with | .lc _ _ _ _ _ _ => true | _ => false)))
          | _ => false
        | .tup ts => isTup x && (parB N sc (chk G N n false sc fo) x v tg e || (!isTup v && noComp v && chkTg N sc fo x tg && chk G N (n + 1) false sc fo v e))
      | _ => false
    | .cel i e => match st with
      | .Assign [.Name y _] v _ => decide (N[i]? = some y) && locB sc fo y && noComp v && chk G N n false sc fo v e
      | _ => false
    | .set i k e => match st with
      | .Assign [.Subscript o y _] v _ => slotB N sc o i && noSlice y && noStar y && noComp v && chk G N n false sc fo y k && chk G N n false sc fo v e
      | _ => false
    | .app i e => match st with
      | .Expr (.Call (.Attribute o m ap) [x] [] p) _ => m == ("append" : Str) && noSuper o && ap.endLine == p.line && slotB N sc o i && noStar x && chk G N n false sc fo x e
      | _ => false
    | .clr i => match st with
      | .Expr (.Call (.Attribute o m ap) [] [] p) _ => m == ("clear" : Str) && noSuper o && ap.endLine == p.line && slotB N sc o i
      | _ => false
    | .aug i .add e => match st with
      | .AugAssign (.Name y _) .Add v _ => decide (N[i]? = some y) && locB sc fo y && chk G N n false sc fo v e
      | _ => false
    | .if_ c a b => match st with
      | .If x s1 s2 _ => chk G N n true sc fo x c && chkSs (chkS G N n sc fo) s1 a && chkSs (chkS G N n sc fo) s2 b
      | _ => false
    | .for_ tg sk sa body => match st with
      | .For x it s [] _ => chkSrc sc (chk G N n false sc fo) x it sk sa && chkTg N sc fo x tg && chkSs (chkS G N n sc fo) s body
      | _ => false
    | .while_ c body => match st with
      | .While x s [] _ => chk G N n true sc fo x c && chkSs (chkS G N n sc fo) s body
      | _ => false
    | .ret e => match st with
      | .Return (some v) _ => (match e with | .v i => slotB N sc v i | e => chk G N n false sc fo v e)
      | _ => false
    | .retN => match st with
      | .Return none _ => true
      | _ => false
    | .expr e => match st with
      | .Expr v _ => noComp v && chk G N n false sc fo v e
      | _ => false
    | .raise _ _ => match st with
      | .Raise _ _ _ => true
      | _ => false
    | .pass_ => match st with | .Pass _ => true | _ => false
    | .brk => match st with | .Break _ => true | _ => false
    | .cnt => match st with | .Continue _ => true | _ => false
    | _ => false
where chkSs (f : Stmt → Q → Bool) : List Stmt → List Q → Bool
  | [], [] => true
  | s :: ss, q :: qs => f s q && chkSs f ss qs
  | _, _ => false
section
variable {X : Cx} {C : Ctx} {He : Hp} {e : Expr} {t : T} {pos p : Pos} {i : Nat}
theorem ss_never {st : Stmt} {c : Str} {as : List T} : PS X st (tS X.K C He (.raise c as)) := PS.imp ps_never fun D σ H ⟨w, R, z, P⟩ => by
  have P : PostS X.K w H ((evs C as w.s).bind fun ds s1 => .exc c (.tup ds) s1) _ := P
  cases q : evs C as w.s with
  | ok a s => rw [q] at P; exact P.elim
  | exc _ _ _ => rw [q] at P; exact P.elim
  | bad => rw [q] at P; exact P.elim
theorem swN {e : Expr} {tg : Option Expr} {l : Nat} {env : Env} (h : noComp e = true) : swapsWith e tg l env = pure false := by
  cases e <;> first | rfl | cases h
theorem swS {e : Expr} {tg : Expr} {l : Nat} {env : Env} (h : noComp e = true) : swapsWithSole [tg] e l env = pure false := swN h
theorem sw_cell {elt : Expr} {gs : List Comprehension} {scope : Scope} {pos py : Pos} {y : Str} {l : Nat} {env : Env} (hk : env.scope.kind = .function) (hy : env.scope.names.lookup y = some .cell) : swapsWith (.ListComp elt gs scope pos) (some (.Name y py)) l env = pure false := by
  have ky : env.kindOf y = some .cell := hy
  have hb : env.blockKind = .function := by unfold Env.blockKind; rw [hk]; rfl
  unfold swapsWith
  simp only [hb, ky]
  rfl
theorem stN {x : Str} {px : Pos} {e : Expr} {env : Env} : swappedStores [.Name x px] e env = pure none := by cases e <;> rfl
theorem stSub {o k : Expr} {px : Pos} {e : Expr} {env : Env} : swappedStores [.Subscript o k px] e env = pure none := by cases e <;> rfl
theorem stT {tg : Expr} {e : Expr} {env : Env} (h : isTup e = false) : swappedStores [tg] e env = pure none := by
  cases e <;> first | (cases h; done) | (cases tg <;> rfl)
theorem st_par {x y : Str} {px py pt p2 : Pos} {kt k2 : Nat} {a b : Expr} {env : Env} (hk : env.scope.kind = .function) (hx : env.scope.names.lookup x = some .local) (hy : env.scope.names.lookup y = some .local) (hxy : (x == y) = false) (hl : (px.line == py.line) = true) (ha : noStar a = true) (hb : noStar b = true)
    (h1 : [a, b].all (foldedForSure 8) = false) (h2 : [a, b].all (constantsAlone 8) = false) : swappedStores [.Tuple [.Name x px, .Name y py] kt pt] (.Tuple [a, b] k2 p2) env = pure (some [x, y]) := by
  have kx : env.kindOf x = some .local := hx
  have ky : env.kindOf y = some .local := hy
  have hbk : env.blockKind = .function := by unfold Env.blockKind; rw [hk]; rfl
  have hl' : (py.line == px.line) = true := by rw [beq_iff_eq] at hl ⊢; exact hl.symm
  have hany : ∀ (p : Expr → Bool), p a = false → p b = false → [a, b].any p = false := fun p q r => by rw [List.any_cons, List.any_cons, q, r]; rfl
  have hyx : (y == x) = false := by
    rw [beq_eq_false_iff_ne] at hxy ⊢
    exact fun e => hxy e.symm
  unfold swappedStores
  dsimp only
  rw [hany]
  · simp only [hbk, List.length_cons, List.length_nil, List.head?_cons, Option.map_some, Option.getD_some, Expr.pos, List.filterMap_cons, List.filterMap_nil, kx, ky, h1, h2]
    simp [List.eraseDups, List.eraseDupsBy, List.eraseDupsBy.loop, hl', hyx]
  · cases a <;> first | rfl | cases ha
  · cases b <;> first | rfl | cases hb
theorem par_read {D : Ends} {σ : L2.St} {H : Hp} {i j : Nat} {s t : T} (h : tS X.K C He (.asg (.tup [.nm i, .nm j]) (.tup [s, t])) D σ H) : tPar i j (tAs X.K C [s, t]) D σ H := by
  obtain ⟨w, R, z, P⟩ := h
  obtain ⟨c, s', hq⟩ := okS_of P
  have hq0 := hq
  obtain ⟨p, s1, h1, h2⟩ := bind_ok_inv (show (ev C (.tup [s, t]) w.s).bind _ = .ok c s' from hq)
  obtain ⟨_, s2, h3, h4⟩ := bind_ok_inv h2
  cases h4
  obtain ⟨ds, s3, h5, h6⟩ := bind_ok_inv (show (evs C [s, t] w.s).bind _ = .ok p s1 from h1)
  by_cases hl : ds.length ≤ lim
  · rw [if_pos hl] at h6
    cases h6
    rw [hq0] at P
    refine ⟨w, R, post_ok h5 fun w1 H1 e1 R1 S1 vs hv => ?_⟩
    rw [← e1] at h3
    have g := tgs_read [.nm i, .nm j] (K := X.K) (w := w1) (σ := σ) (H := H1) (ds := ds) (vs := vs) (s' := s') (Q := D.nx) h3 R1 hv fun w2 σ2 e2 R2 S2 _ _ _ => P w2 σ2 H1 e2 R2 (S1.trans S2)
    obtain ⟨v, r, rfl, u, r2, rfl, rfl, q⟩ := g
    exact ⟨v, u, rfl, q⟩
  · rw [if_neg hl] at h6; cases h6
theorem parB_ok {N : List Str} {sc : Scope} {f : Expr → T → Bool} {x v : Expr} {tg : Tg} {e : T} (h : parB N sc f x v tg e = true) : ∃ x1 px y1 py kt pt a b k2 p2 i j s t, x = .Tuple [.Name x1 px, .Name y1 py] kt pt ∧ v = .Tuple [a, b] k2 p2 ∧ tg = .tup [.nm i, .nm j] ∧ e = .tup [s, t] ∧
    N[i]? = some x1 ∧ N[j]? = some y1 ∧ (x1 == y1) = false ∧ sc.names.lookup x1 = some .local ∧ sc.names.lookup y1 = some .local ∧ (px.line == py.line) = true ∧ noStar a = true ∧ noStar b = true ∧ [a, b].all (foldedForSure 8) = false ∧ [a, b].all (constantsAlone 8) = false ∧ f a s = true ∧ f b t = true := by
  unfold parB at h
  split at h
  · simp only [Bool.and_eq_true, Bool.not_eq_true', decide_eq_true_eq] at h
    obtain ⟨⟨⟨⟨⟨⟨⟨⟨⟨⟨⟨h1, h2⟩, h3⟩, h4⟩, h5⟩, h6⟩, h7⟩, h8⟩, h9⟩, h10⟩, h11⟩, h12⟩ := h
    exact ⟨_, _, _, _, _, _, _, _, _, _, _, _, _, _, rfl, rfl, rfl, rfl, h1, h2, h3, h4, h5, h6, h7, h8, h9, h10, h11, h12⟩
  · cases h
theorem locB_ok {sc : Scope} {fo : Str → Bool} {x : Str} (es : X.env.scope = sc) (hf : ∀ x, fo x = true → X.fn x = true) (h : locB sc fo x = true) : L2.Loc X.env.scope x ∧ (X.fn x = true ∨ X.env.scope.names.lookup x = some .local) := by
  unfold locB at h
  split at h
  · rename_i z; rw [es]; exact ⟨.inl z, .inr z⟩
  · rename_i z; rw [es]; exact ⟨.inr z, .inl (hf x h)⟩
  · cases h
theorem asgSub {o k : Expr} {spos : Pos} {env : Env} (h : noSlice k = true) : ∀ v, assign (.Subscript o k spos) env v = (do
      let ov ← holding [v] (eval o env)
      let iv ← holding [v, ov] (eval k env)
      standAt spos
      holding [v, ov, iv] (setItem ov iv v)
      release [v, ov, iv] []) := fun v => by
  cases k <;> first | rfl | cases h
end
theorem chkSs_ok {X : Cx} {C : Ctx} {He : Hp} {f : Stmt → Q → Bool} (hf : ∀ st q, f st q = true → PS X st (tS X.K C He q)) : ∀ (ss : List Stmt) (qs : List Q), chkS.chkSs f ss qs = true → PSs X ss (tSs X.K C He qs)
  | [], [], _ => ss_nil
  | [], _ :: _, h => by cases h
  | _ :: _, [], h => by cases h
  | s :: ss, q :: qs, h => by
    have h : (f s q && chkS.chkSs f ss qs) = true := h
    rw [Bool.and_eq_true] at h
    exact ss_cons (hf s q h.1) (chkSs_ok hf ss qs h.2)
theorem chkS_ok {G : Glob} {C : Ctx} {N : List Str} {k : Nat} {He : Hp} : ∀ (n : Nat) (sc : Scope) (fo : Str → Bool) (X : Cx) (st : Stmt) (q : Q), Good G C N fo k X → X.env.scope = sc → sc.kind = .function → (∀ e s, ¬ X.xe e s) → chkS G N n sc fo st q = true → PS X st (tS X.K C He q) := by
  intro n
  induction n with
  | zero => intro sc fo X st q g es ek ex h; cases h
  | succ n ih =>
    intro sc fo X st q g es ek ex h
    have ihE : ∀ e t, chk G N n false sc fo e t = true → PE X e (tE X.K C t) := fun e t h => (chk_ok n false sc fo X e t g es h).1
    have ihE1 : ∀ e t, chk G N (n + 1) false sc fo e t = true → PE X e (tE X.K C t) := fun e t h => (chk_ok (n + 1) false sc fo X e t g es h).1
    have ihT : ∀ e t, chk G N n true sc fo e t = true → PT X e (tB2 X.K C t) := fun e t h => (chk_ok n true sc fo X e t g es h).2.1 rfl
    have ihS : ∀ ss qs, chkS.chkSs (chkS G N n sc fo) ss qs = true → PSs X ss (tSs X.K C He qs) := fun ss qs h => chkSs_ok (fun st q h => ih sc fo X st q g es ek ex h) ss qs h
    have own : PassesOwn (model X.prog X.w) X.A X.env X.xe := by
      have e : X.xe = fun _ _ => False := by funext a b; exact propext ⟨fun h => ex a b h, fun h => h.elim⟩
      rw [e]; exact PassesOwn.never
    have kf : X.env.scope.kind = .function := by rw [es]; exact ek
    cases q with
    | asg tg e =>
      cases st with
      | Assign ts v pos =>
        match ts, h with
        | [], h => simp [chkS] at h
        | _ :: _ :: _, h => simp [chkS] at h
        | [x], h =>
          cases tg with
          | nm i =>
            cases x with
            | Name y py =>
              simp only [chkS, Bool.and_eq_true, Bool.or_eq_true, decide_eq_true_eq] at h
              obtain ⟨⟨⟨h1, h2⟩, h3⟩, h4⟩ := h
              obtain ⟨l1, l2⟩ := locB_ok es g.fo h2
              rcases h4 with h4 | ⟨h4, h5⟩
              · exact ss_asg (by rw [g.n]; exact g.nd) (by rw [g.n]; exact h1) l1 l2 (ihE1 _ _ h3) (swN h4) stN
              · cases v with
                | ListComp elt gens scope p =>
                  simp only [compB] at h4
                  split at h4
                  · rename_i hloc
                    simp only [Bool.and_eq_true, Bool.not_eq_true'] at h4
                    cases e with
                    | lc own' tg sk sa cond el =>
                      match gens, h3 with
                      | [⟨tg', it, ifs, as0⟩], h3 =>
                        obtain ⟨rfl, q1, q2, q3, q4, q5, hsub, eo, q6⟩ := lc_prem g es (fun md sc fo X e t g es h => chk_ok n md sc fo X e t g es h) h3
                        have hl2 : X.env.scope.names.lookup y = some .local := by rw [es]; exact hloc
                        have q := ps_setLc (i := i) (y := y) (py := py) (spos := pos) (X := X) (own := ownP N own') (tt := tC2 X.K C cond) (te := tF X.K C el) (g := gOf X.K tg) g.calm (by rw [g.n]; exact g.nd) (by rw [g.n]; exact h1) hl2
                          (sw_true kf hl2 h4.1 h4.2) q1 q2 q3 q4 q5 q6
                        rw [eo] at q
                        exact PS.imp q fun D σ H hh => lc_read hsub (asg_read hh)
                      | [], h3 => simp [chk] at h3
                      | _ :: _ :: _, h3 => simp [chk] at h3
                    | _ => cases h5
                  · rename_i hcell
                    exact ss_asg (by rw [g.n]; exact g.nd) (by rw [g.n]; exact h1) l1 l2 (ihE1 _ _ h3) (sw_cell kf (by rw [es]; exact hcell)) stN
                  · cases h4
                | _ => cases h4
            | _ => simp [chkS] at h
          | tup ts =>
            simp only [chkS, Bool.and_eq_true, Bool.or_eq_true, Bool.not_eq_true'] at h
            obtain ⟨h0, h⟩ := h
            rcases h with h | ⟨⟨⟨h1, h2⟩, h3⟩, h4⟩
            · obtain ⟨x1, px, y1, py, kt, pt, a, b, k2, p2, i, j, s, t, rfl, rfl, e1, rfl, n1, n2, n3, n4, n5, n6, n7, n8, n9, n10, n11, n12⟩ := parB_ok h
              have hx : X.env.scope.names.lookup x1 = some .local := by rw [es]; exact n4
              have hy : X.env.scope.names.lookup y1 = some .local := by rw [es]; exact n5
              rw [e1]
              refine PS.imp (ps_par (i := i) (j := j) g.calm (by rw [g.n]; exact g.nd) (by rw [g.n]; exact n1) (by rw [g.n]; exact n2) (fun z => ?_) hx hy (sa_cons (ihE _ _ n11) (sa_cons (ihE _ _ n12) sa_nil (star_ok n8)) (star_ok n7)) (st_par kf hx hy n3 n6 n7 n8 n9 n10) rfl) fun D σ H hh => par_read hh
              subst z
              rw [n1] at n2
              cases n2
              simp at n3
            · exact ss_asgT rfl (tg_ok g.calm g.n g.nd es g.fo (.tup ts) x h3) (ihE1 _ _ h4) (swS h2) (stT h1) (by obtain ⟨_, _, _, rfl⟩ := tup_of h0; rfl)
      | _ => simp [chkS] at h
    | cel i e =>
      simp only [chkS] at h
      split at h
      · simp only [Bool.and_eq_true, decide_eq_true_eq] at h
        obtain ⟨⟨⟨h1, h2⟩, h3⟩, h4⟩ := h
        obtain ⟨l1, l2⟩ := locB_ok es g.fo h2
        exact ss_cel (by rw [g.n]; exact g.nd) (by rw [g.n]; exact h1) l1 l2 (ihE _ _ h4) (swN h3) stN
      · cases h
    | set i k' e =>
      cases st with
      | Assign ts v pos =>
        match ts, h with
        | [.Subscript o y sp], h =>
          simp only [chkS, Bool.and_eq_true] at h
          obtain ⟨⟨⟨⟨⟨h1, h2⟩, h3⟩, h4⟩, h5⟩, h6⟩ := h
          exact ss_set (slot_ok g.n es h1).1 (ihE _ _ h5) (ihE _ _ h6) (swS h4) stSub (asgSub h2)
        | [], h => simp [chkS] at h
        | _ :: _ :: _, h => simp [chkS] at h
        | [.BoolOp _ _ _], h | [.NamedExpr _ _ _], h | [.BinOp _ _ _ _], h | [.UnaryOp _ _ _], h | [.Lambda _ _ _ _], h | [.IfExp _ _ _ _], h | [.Dict _ _ _], h | [.Set _ _ _], h | [.ListComp _ _ _ _], h
        | [.SetComp _ _ _ _], h | [.DictComp _ _ _ _ _], h | [.GeneratorExp _ _ _ _], h | [.Await _ _], h | [.Yield _ _], h | [.YieldFrom _ _], h | [.Compare _ _ _ _], h | [.Call _ _ _ _], h | [.FormattedValue _ _ _ _], h
        | [.JoinedStr _ _], h | [.Constant _ _ _], h | [.Attribute _ _ _], h | [.Name _ _], h | [.Starred _ _], h | [.List _ _], h | [.Tuple _ _ _], h | [.Slice _ _ _ _], h => simp [chkS] at h
      | _ => simp [chkS] at h
    | app i e =>
      simp only [chkS] at h
      split at h
      · simp only [Bool.and_eq_true] at h
        obtain ⟨⟨⟨⟨⟨h1, h2⟩, h3⟩, h4⟩, h5⟩, h6⟩ := h
        have e1 := eq_of_beq h1
        subst e1
        exact ss_app (slot_ok g.n es h4).1 (ihE _ _ h6) h5 h2 h3
      · cases h
    | ext i e => simp [chkS] at h
    | clr i =>
      simp only [chkS] at h
      split at h
      · simp only [Bool.and_eq_true] at h
        obtain ⟨⟨⟨h1, h2⟩, h3⟩, h4⟩ := h
        have e1 := eq_of_beq h1
        subst e1
        exact ss_clr (slot_ok g.n es h4).1 h2 h3
      · cases h
    | aug i o e =>
      cases o with
      | add =>
        simp only [chkS] at h
        split at h
        · simp only [Bool.and_eq_true, decide_eq_true_eq] at h
          obtain ⟨⟨h1, h2⟩, h3⟩ := h
          obtain ⟨l1, l2⟩ := locB_ok es g.fo h2
          exact ss_aug (by rw [g.n]; exact g.nd) (by rw [g.n]; exact h1) l1 l2 (ihE _ _ h3)
        · cases h
      | _ => simp [chkS] at h
    | if_ c a b =>
      cases st with
      | If x s1 s2 pos =>
        simp only [chkS, Bool.and_eq_true] at h
        exact ss_if (ihT _ _ h.1.1) (ihS _ _ h.1.2) (ihS _ _ h.2)
      | _ => simp [chkS] at h
    | for_ tg sk sa body =>
      cases st with
      | For x it s orelse pos =>
        cases orelse with
        | nil =>
          simp only [chkS, Bool.and_eq_true] at h
          obtain ⟨q1, q2⟩ := src_ok g es ihE h.1.1
          exact ss_for own g.calm q1 (tg_ok g.calm g.n g.nd es g.fo tg x h.1.2) (ihS _ _ h.2) (foldset_ok q2)
        | cons _ _ => simp [chkS] at h
      | _ => simp [chkS] at h
    | while_ c body =>
      cases st with
      | While x s orelse pos =>
        cases orelse with
        | nil =>
          simp only [chkS, Bool.and_eq_true] at h
          exact ss_while own (ihT _ _ h.1) (ihS _ _ h.2)
        | cons _ _ => simp [chkS] at h
      | _ => simp [chkS] at h
    | ret e =>
      cases st with
      | Return v pos =>
        cases v with
        | some v =>
          rcases isV e with ⟨i, rfl⟩ | hv
          · exact ss_retv (slot_ok g.n es (show slotB N sc v i = true by simpa only [chkS] using h)).1
          · refine ss_ret (ihE _ _ ?_) hv
            cases e <;> first | exact absurd rfl (hv _) | simpa only [chkS] using h
        | none => simp [chkS] at h
      | _ => simp [chkS] at h
    | retN =>
      cases st with
      | Return v pos => cases v with
        | none => exact ss_retN
        | some _ => simp [chkS] at h
      | _ => simp [chkS] at h
    | expr e =>
      cases st with
      | Expr v pos =>
        simp only [chkS, Bool.and_eq_true] at h
        exact ss_expr (ihE _ _ h.2) (swN h.1)
      | _ => simp [chkS] at h
    | raise c as => exact ss_never
    | pass_ => cases st <;> first | exact ss_pass | simp [chkS] at h
    | brk => cases st <;> first | exact ss_brk | simp [chkS] at h
    | cnt => cases st <;> first | exact ss_cnt | simp [chkS] at h
end Lm
set_option Elab.async false
set_option linter.all false
set_option maxRecDepth 100000
set_option maxHeartbeats 8000000
/-! Defs: each keeps what the interpreter says of it. -/
namespace Lm
open PySem L2

structure Entry where
  name : Str
  N : List Str
  ps : List Str
  body : List Q
  st : Stmt
  dfl : List D
def tab (es : List Entry) (f : Str) : Option Fn := (es.find? fun e => e.name == f).map fun e => ⟨e.N.length, e.ps.length, e.body⟩
def globOf (es : List Entry) (con : List (Str × D)) : Glob := ⟨con, es.map fun e => (e.name, e.ps.length), es.map fun e => (e.name, e.dfl)⟩
def scB (N ps : List Str) (sc : Scope) : Bool := decide (sc.kind = .function) && !sc.isCoroutine && !sc.isGenerator && decide N.Nodup && decide (N.take ps.length = ps) &&
  ps.all (fun x => decide (sc.names.lookup x = some .local) || decide (sc.names.lookup x = some .cell)) && sc.names.all (fun y => decide (y.2 ≠ .free))
theorem scB_ok {N ps : List Str} {sc : Scope} (h : scB N ps sc = true) : FnScope N ps sc := by
  unfold scB at h
  simp only [Bool.and_eq_true, decide_eq_true_eq, Bool.not_eq_true', List.all_eq_true, Bool.or_eq_true] at h
  obtain ⟨⟨⟨⟨⟨⟨h1, h2⟩, h3⟩, h4⟩, h5⟩, h6⟩, h7⟩ := h
  exact ⟨h1, h2, h3, h4, h5, h6, h7⟩
/-- the look at a def -/
def entB (G : Glob) (n : Nat) (e : Entry) : Bool := scB e.N e.ps (defScope e.st) && chkS.chkSs (chkS G e.N n (defScope e.st) (fun _ => true)) (defBody e.st) e.body
section
variable {K : PySem.W.Frag} {F : Hp} {μ : List Addr} {g : List Cell} {H : Hp}
theorem start_get {Fd : Fn} {ds : List D} {i : Nat} {x : D × Bool} (q : (start Fd ds g).r[i]? = some (some x)) : ∃ d, ds[i]? = some d ∧ x = (d, false) := by
  have q : (ds.map (fun d => some (d, false)) ++ List.replicate (Fd.slots - Fd.pars) none)[i]? = some (some x) := q
  by_cases c : i < ds.length
  · rw [List.getElem?_append_left (by simpa using c), List.getElem?_map] at q
    cases hd : ds[i]? with
    | none => rw [hd] at q; cases q
    | some d => rw [hd] at q; cases q; exact ⟨d, rfl, rfl⟩
  · rw [List.getElem?_append_right (by simpa using c), List.getElem?_replicate] at q
    split at q <;> cases q
theorem start_ow {Fd : Fn} {ds : List D} {i : Nat} : ¬ W.ow ⟨F, μ, fun _ => 0, start Fd ds g⟩ i := fun ⟨d, q⟩ => by
  obtain ⟨_, _, e⟩ := start_get q
  cases e
theorem start_O {Fd : Fn} {ds : List D} {a : Addr} : W.O ⟨F, μ, fun _ => 0, start Fd ds g⟩ a ↔ a ∈ μ := ⟨fun h => h.elim id fun ⟨i, h, _⟩ => (start_ow h).elim, .inl⟩
theorem Rep.enter {Fd : Fn} {ds : List D} {vs : List V} {N : List Str} (R : Rep K ⟨F, μ, fun _ => 0, ⟨[], g⟩⟩ [] H) (h : IsAll K F μ vs ds) (h1 : Fd.slots = N.length) (h2 : Fd.pars = ds.length) : Rep K ⟨F, μ, fun _ => 0, start Fd ds g⟩ (L2.start N vs) H where
  ex := R.ex
  len := by
    show (ds.map _ ++ List.replicate (Fd.slots - Fd.pars) none).length = (vs.map some ++ List.replicate (N.length - vs.length) none).length
    simp only [List.length_append, List.length_map, List.length_replicate, h.length, h1, h2]
  slot := fun i d q => by
    obtain ⟨d', e1, e2⟩ := start_get q
    cases e2
    obtain ⟨v, e3, e4⟩ := h.get e1
    refine ⟨v, ?_, e4⟩
    show (vs.map some ++ _)[i]? = _
    rw [List.getElem?_append_left (by rw [List.length_map]; exact (List.getElem?_eq_some_iff.mp e3).1), List.getElem?_map, e3]; rfl
  own := fun i d q => (start_ow (F := F) (μ := μ) ⟨d, q⟩).elim
  cell := R.cell
  clen := R.clen
  fr := fun a z => R.fr a (.inl (start_O.mp z))
  nd := R.nd
  dis := fun i j z => (start_ow z).elim
  dic := fun i z => (start_ow z).elim
end
/-- where a def stands -/
structure At (K : PySem.W.Frag) (mg : Str → Option Value) (e : Entry) (fa : Addr) (fd : FuncData) : Prop where
  f : ∃ dvs, FunD K e.name e.name (defArgs e.st) (defBody e.st) (defScope e.st) dvs [] fa fd
  g : mg e.name = some (.ref fa)
  b : Binds K fd e.ps []
  d : ∃ dvs dus, Vals dvs dus ∧ (∀ F μ, IsAll K F μ dvs e.dfl) ∧ Binds K fd e.ps dus
structure World0 (K : PySem.W.Frag) (mg : Str → Option Value) (es : List Entry) (con : List (Str × D)) : Prop where
  ents : ∀ e ∈ es, ∃ fa fd, At K mg e fa fd
  blt : ∀ x ∈ (["len", "abs", "all", "any", "max", "min", "tuple", "list", "range", "enumerate", "zip", "isinstance", "int", "bool", "str", "sorted"] : List Str), mg x = none
  con : ∀ x d, con.lookup x = some d → ∃ u v, mg x = some u ∧ RelV v u ∧ ∀ F μ, Is K F μ v d
theorem tab_find {es : List Entry} {f : Str} {Fd : Fn} (h : tab es f = some Fd) : ∃ e ∈ es, e.name = f ∧ Fd = ⟨e.N.length, e.ps.length, e.body⟩ := by
  unfold tab at h
  obtain ⟨e, he, rfl⟩ := Option.map_eq_some_iff.mp h
  exact ⟨e, List.mem_of_find?_eq_some he, by simpa using List.find?_some he, rfl⟩
theorem glob_find {es : List Entry} {con : List (Str × D)} {f : Str} {n : Nat} : (globOf es con).fn.lookup f = some n → ∃ e ∈ es, e.name = f ∧ n = e.ps.length ∧ tab es f = some ⟨e.N.length, e.ps.length, e.body⟩ := by
  show (es.map fun e => (e.name, e.ps.length)).lookup f = some n → _
  induction es with
  | nil => intro h; cases h
  | cons e es ih =>
    intro h
    rw [List.map_cons, List.lookup_cons] at h
    cases c : f == e.name with
    | true =>
      rw [c] at h
      cases h
      have e1 := eq_of_beq c
      refine ⟨e, List.mem_cons_self, e1.symm, rfl, ?_⟩
      unfold tab
      rw [List.find?_cons_of_pos (by rw [e1]; simp)]; rfl
    | false =>
      rw [c] at h
      obtain ⟨e', h1, h2, h3, h4⟩ := ih h
      refine ⟨e', List.mem_cons_of_mem _ h1, h2, h3, ?_⟩
      have ne : (e.name == f) = false := by
        rw [beq_eq_false_iff_ne] at c ⊢
        exact fun z => c z.symm
      unfold tab at h4 ⊢
      rw [List.find?_cons_of_neg (by rw [ne]; exact Bool.false_ne_true)]
      exact h4
theorem dfl_find {es : List Entry} {con : List (Str × D)} {f : Str} {n : Nat} {dl : List D} : (globOf es con).fn.lookup f = some n → (globOf es con).dfl.lookup f = some dl → ∃ e ∈ es, e.name = f ∧ n = e.ps.length ∧ dl = e.dfl ∧ tab es f = some ⟨e.N.length, e.ps.length, e.body⟩ := by
  show (es.map fun e => (e.name, e.ps.length)).lookup f = some n → (es.map fun e => (e.name, e.dfl)).lookup f = some dl → _
  induction es with
  | nil => intro h; cases h
  | cons e es ih =>
    intro h h'
    rw [List.map_cons, List.lookup_cons] at h h'
    cases c : f == e.name with
    | true =>
      rw [c] at h h'
      cases h
      cases h'
      have e1 := eq_of_beq c
      refine ⟨e, List.mem_cons_self, e1.symm, rfl, rfl, ?_⟩
      unfold tab
      rw [List.find?_cons_of_pos (by rw [e1]; simp)]; rfl
    | false =>
      rw [c] at h h'
      obtain ⟨e', h1, h2, h3, h5, h4⟩ := ih h h'
      refine ⟨e', List.mem_cons_of_mem _ h1, h2, h3, h5, ?_⟩
      have ne : (e.name == f) = false := by
        rw [beq_eq_false_iff_ne] at c ⊢
        exact fun z => c z.symm
      unfold tab at h4 ⊢
      rw [List.find?_cons_of_neg (by rw [ne]; exact Bool.false_ne_true)]
      exact h4
theorem callD_len {es : List Entry} {wf n : Nat} {f : Str} {ds : List D} {g : List Cell} {p : D × Bool} {s : S} (h : callD (tab es) wf n f ds g = .ok p s) : ∃ Fd, tab es f = some Fd ∧ ds.length = Fd.pars := by
  cases n with
  | zero => cases h
  | succ n =>
    have h : (match tab es f with
      | some F => if ds.length = F.pars then finC (exs ⟨callD (tab es) wf n, wf⟩ F.body (start F ds g)) else .bad
      | none => .bad) = .ok p s := h
    cases q : tab es f with
    | none => rw [q] at h; cases h
    | some Fd =>
      rw [q] at h
      refine ⟨Fd, rfl, ?_⟩
      by_cases c : ds.length = Fd.pars
      · exact c
      · simp only [if_neg c] at h; cases h
theorem all_ok {P : Program} {w : World} {K : PySem.W.Frag} {mg : Str → Option Value} {base : Heap} {es : List Entry} {con : List (Str × D)} {wf m : Nat} (W0 : World0 K mg es con) (hs : es.all (entB (globOf es con) m) = true) :
    ∀ (n : Nat), ∀ e ∈ es, tab es e.name = some ⟨e.N.length, e.ps.length, e.body⟩ → ∀ fa fd, At K mg e fa fd → FnOk P w K mg base CX0 (n + 1) fa fd e.ps (spD K ⟨callD (tab es) wf n, wf⟩ e.ps.length e.name) := by
  intro n
  induction n with
  | zero =>
    intro e he ht fa fd A
    refine ⟨fun vs H Q E h => h.1, fun A outer s H args us vs Q E hr he hb hv h => ?_⟩
    obtain ⟨_, F, μ, g, ds, _, _, h⟩ := h
    exact h.elim
  | succ n ih =>
    intro e he ht fa fd A
    have hc := List.all_eq_true.mp hs e he
    unfold entB at hc
    rw [Bool.and_eq_true] at hc
    have sc := scB_ok hc.1
    obtain ⟨dvs0, Af⟩ := A.f
    refine Af.ok sc (fun vs H Q E h => h.1) fun cdv A' outer s H vs Q E hr h => ?_
    have gd : Good (globOf es con) ⟨callD (tab es) wf n, wf⟩ e.N (fun _ => true) (n + 1) (cxOf CX0 P w K mg base e.N e.name (defScope e.st) fa cdv A' outer s H E).nox := by
      refine ⟨rfl, sc.nd, rfl, hr, fun _ _ => rfl, W0.blt, W0.con, fun f k hf => ?_, fun f k dl hf hd => ?_, fun f k hf ds g p s hh => ?_⟩
      · obtain ⟨e', h1, h2, h3, h4⟩ := glob_find hf
        subst h2
        obtain ⟨fa', fd', A2⟩ := W0.ents e' h1
        obtain ⟨_, Af2⟩ := A2.f
        refine ⟨fa', fd', e'.ps, h3.symm, A2.g, Af2.kp, A2.b, ?_⟩
        rw [h3]
        exact ih e' h1 h4 fa' fd' A2
      · obtain ⟨e', h1, h2, h3, h5, h4⟩ := dfl_find hf hd
        subst h2
        subst h5
        obtain ⟨fa', fd', A2⟩ := W0.ents e' h1
        obtain ⟨_, Af2⟩ := A2.f
        obtain ⟨dvs, dus, d1, d2, d3⟩ := A2.d
        refine ⟨fa', fd', e'.ps, dus, dvs, h3.symm, A2.g, Af2.kp, d3, d1, d2, ?_⟩
        rw [h3]
        exact ih e' h1 h4 fa' fd' A2
      · obtain ⟨e', h1, h2, h3, h4⟩ := glob_find hf
        obtain ⟨Fd, h5, h6⟩ := callD_len hh
        rw [h4] at h5
        cases h5
        exact h6.trans h3.symm
    refine ⟨tSs K ⟨callD (tab es) wf n, wf⟩ H e.body, PSs.nox (chkSs_ok (fun st q hq => chkS_ok m (defScope e.st) (fun _ => true) _ st q gd rfl sc.kind (fun _ _ z => z) hq) _ _ hc.2), ?_⟩
    obtain ⟨hl, F, μ, g, ds, R, hv, P1⟩ := h
    have P1 : Post K ⟨F, μ, fun _ => 0, ⟨[], g⟩⟩ [] H (match tab es e.name with
      | some Fd => if ds.length = Fd.pars then finC (exs ⟨callD (tab es) wf n, wf⟩ Fd.body (start Fd ds g)) else .bad
      | none => .bad) (fun p w' H' => ∀ v, w'.val K H H' v p → Q v H') := P1
    rw [ht] at P1
    have hd : ds.length = e.ps.length := by rw [← hv.length]; exact hl
    simp only [hd, if_true] at P1
    have R1 := Rep.enter (Fd := ⟨e.N.length, e.ps.length, e.body⟩) (N := e.N) R hv rfl hd.symm
    refine ⟨_, R1, ⟨fun i z => (start_ow z).elim, fun _ z => z⟩, ?_⟩
    have bare : ∀ (w' : W) (σ' : L2.St) (H' : Hp), Rep K w' σ' H' → Step ⟨F, μ, fun _ => 0, start ⟨e.N.length, e.ps.length, e.body⟩ ds g⟩ H w' H' → Rep K ⟨w'.F, w'.μ, fun _ => 0, ⟨[], w'.s.g⟩⟩ [] H' ∧ Step ⟨F, μ, fun _ => 0, ⟨[], g⟩⟩ H ⟨w'.F, w'.μ, fun _ => 0, ⟨[], w'.s.g⟩⟩ H' := fun w' σ' H' R' S' =>
      ⟨R'.bare, ⟨fun a o q no => S'.keep a o q fun z => no (O_bare.mpr (start_O.mp z)), S'.sub, fun a o q => by
        rcases S'.newF a o q with z | z | z
        · exact .inl z
        · exact .inr (.inl (O_bare.mpr (start_O.mp z)))
        · exact .inr (.inr z), fun a z => by
        rcases S'.newO a (.inl (O_bare.mp z)) with z | z
        · exact .inl (O_bare.mpr (start_O.mp z))
        · exact .inr z, S'.pre, S'.live⟩⟩
    show PostS K _ H (exs ⟨callD (tab es) wf n, wf⟩ e.body (start ⟨e.N.length, e.ps.length, e.body⟩ ds g)) _
    revert P1
    cases exs ⟨callD (tab es) wf n, wf⟩ e.body (start ⟨e.N.length, e.ps.length, e.body⟩ ds g) with
    | bad => exact fun h => h.elim
    | exc _ _ _ => exact fun h => h.elim
    | ok c s' =>
      intro P1 w' σ' H' e' R' S'
      obtain ⟨b1, b2⟩ := bare w' σ' H' R' S'
      cases c with
      | nx => exact P1 _ H' (by rw [← e']) b1 b2 .non .non
      | ret d o =>
        intro v hv'
        refine P1 _ H' (by rw [← e']) b1 b2 v ?_
        cases o with
        | false => exact hv'
        | true =>
          obtain ⟨a, vs', ds', q1, q2, q3, q4, q5, q6, q7⟩ := hv'
          exact ⟨a, vs', ds', q1, q2, q3, fun z => q4 (.inl (O_bare.mp z)), q5, q6, q7⟩
      | brk => exact P1.elim
      | cnt => exact P1.elim
/-- what a law's row asks -/
def spLaw (K : PySem.W.Frag) : Sp := fun vs H Q _ => ∃ (a : Addr) (ns : List Int), vs = [.ref a] ∧ SqL K H a (ns.map V.int) ∧ ns.length ≤ 63 ∧ ∀ H', Q (.bl true) H'
theorem law_ok {P : Program} {w : World} {K : PySem.W.Frag} {mg : Str → Option Value} {base : Heap} {es : List Entry} {con : List (Str × D)} {wf m n : Nat} {e : Entry} {fa : Addr} {fd : FuncData} (W0 : World0 K mg es con) (hs : es.all (entB (globOf es con) m) = true) (he : e ∈ es)
    (ht : tab es e.name = some ⟨e.N.length, e.ps.length, e.body⟩) (A : At K mg e fa fd) (hp : e.ps.length = 1) (pure : ∀ ns : List Int, ns.length ≤ 63 → ∃ s, callD (tab es) wf n e.name [.scr ns] [] = .ok (.bl true, false) s) :
    FnOk P w K mg base CX0 (n + 1) fa fd e.ps (spLaw K) := by
  refine (all_ok (wf := wf) W0 hs n e he ht fa fd A).imp fun vs H Q E h => ?_
  obtain ⟨a, ns, rfl, hS, hl, k⟩ := h
  refine ⟨hp.symm, H, [], [], [.scr ns], ⟨Sub.refl H, rfl, fun i d q => by simp at q, fun i d q => by simp at q, fun k c q => by simp at q, rfl, fun a z => ?_, List.nodup_nil, fun i j z => (no_ow z).elim, fun i z => (no_ow z).elim⟩, .cons (.scr hS) .nil, ?_⟩
  · exact absurd (O_bare.mp z) (by simp)
  · obtain ⟨s, e⟩ := pure ns hl
    exact post_ok e fun w' H' _ _ _ v hv => by
      have : v = .bl true := is_bl hv
      rw [this]; exact k H'
end Lm
set_option Elab.async false
set_option linter.all false
set_option maxRecDepth 100000
set_option maxHeartbeats 8000000
/-! What the end of each law takes. -/
namespace Lm
open PySem L2
abbrev DP : Nat := 60
abbrev WF : Nat := 4000
section
variable {K : PySem.W.Frag} {mg : Str → Option Value} {h : Heap} {es : List Entry} {con : List (Str × D)} {e : Entry}
theorem ents_nil : ∀ e ∈ ([] : List Entry), ∃ fa fd, At K mg e fa fd := fun e h => by cases h
theorem ents_cons {fa : Addr} {fd : FuncData} (A : At K mg e fa fd) (r : ∀ e ∈ es, ∃ fa fd, At K mg e fa fd) : ∀ e' ∈ e :: es, ∃ fa fd, At K mg e' fa fd := fun e' q => by
  rcases List.mem_cons.mp q with rfl | q
  · exact ⟨fa, fd, A⟩
  · exact r e' q
theorem blt_nil : ∀ x ∈ ([] : List Str), mg x = none := fun _ q => by cases q
theorem blt_cons {x : Str} {xs : List Str} (a : mg x = none) (r : ∀ y ∈ xs, mg y = none) : ∀ y ∈ x :: xs, mg y = none := fun y q => by
  rcases List.mem_cons.mp q with rfl | q
  · exact a
  · exact r y q
def ConOk (K : PySem.W.Frag) (mg : Str → Option Value) (con : List (Str × D)) : Prop := ∀ x d, con.lookup x = some d → ∃ u v, mg x = some u ∧ RelV v u ∧ ∀ F μ, Is K F μ v d
theorem con_nil : ConOk K mg [] := fun _ _ q => by cases q
theorem con_cons {y : Str} {d : D} {u : Value} {v : V} (h1 : mg y = some u) (h2 : RelV v u) (h3 : ∀ F μ, Is K F μ v d) (r : ConOk K mg con) : ConOk K mg ((y, d) :: con) := fun x d' q => by
  rw [List.lookup_cons] at q
  cases c : x == y with
  | true =>
    rw [c] at q
    cases q
    rw [eq_of_beq c]
    exact ⟨u, v, h1, h2, h3⟩
  | false =>
    rw [c] at q
    exact r x d' q
theorem con_int {y : Str} {i : Int} {t : Tok} (h1 : mg y = some (.int i t)) (r : ConOk K mg con) : ConOk K mg ((y, .int i) :: con) := con_cons (v := .int i) h1 ⟨t, rfl⟩ (fun _ _ => .int i) r
theorem con_str {y z : Str} {t : Tok} {l : List Nat} (h1 : mg y = some (.str z t)) (e : z.cps.toList = l) (r : ConOk K mg con) : ConOk K mg ((y, .str l) :: con) := con_cons (v := .str z) h1 ⟨t, rfl⟩ (fun _ _ => by rw [← e]; exact .str z) r
theorem fund_mk {x qual : Str} {st : Stmt} {f : Addr} {oc : Value} {od an : Option Addr} {osl : Array (Option Value)} {kV doc pm cdv ct : Value} (l : K.lookup f = some ⟨oc, od, .func (PySem.W.fnOf x qual (defArgs st) (defBody st) (defScope st) .none kV doc pm an cdv ct), osl⟩)
    (c : PySem.W.codeIn K cdv qual = true) (k : PySem.W.keepIn K (.ref f) = true) : FunD K x qual (defArgs st) (defBody st) (defScope st) [] [] f (PySem.W.fnOf x qual (defArgs st) (defBody st) (defScope st) .none kV doc pm an cdv ct) :=
  ⟨⟨oc, od, .none, kV, doc, pm, an, cdv, ct, osl, rfl, l, c, .inl ⟨rfl, rfl⟩, .inl rfl⟩, k⟩
/-- one default: None -/
theorem fund_non {x qual : Str} {st : Stmt} {f T : Addr} {oc oT : Value} {od an dT : Option Addr} {osl sT : Array (Option Value)} {nT : Nat} {kV doc pm cdv ct : Value} (l : K.lookup f = some ⟨oc, od, .func (PySem.W.fnOf x qual (defArgs st) (defBody st) (defScope st) (.ref T) kV doc pm an cdv ct), osl⟩)
    (c : PySem.W.codeIn K cdv qual = true) (k : PySem.W.keepIn K (.ref f) = true) (d : K.lookup T = some ⟨oT, dT, .seq #[.none] nT, sT⟩) : FunD K x qual (defArgs st) (defBody st) (defScope st) [.non] [] f (PySem.W.fnOf x qual (defArgs st) (defBody st) (defScope st) (.ref T) kV doc pm an cdv ct) :=
  ⟨⟨oc, od, .ref T, kV, doc, pm, an, cdv, ct, osl, rfl, l, c, .inr ⟨by simp, T, _, [.none], nT, rfl, d, rfl, .cons rfl .nil⟩, .inl rfl⟩, k⟩
theorem at_no {fd : FuncData} {ps : List Str} (b : Binds K fd ps []) : ∃ dvs dus, Vals dvs dus ∧ (∀ F μ, IsAll K F μ dvs ([] : List D)) ∧ Binds K fd ps dus := ⟨[], [], .nil, fun _ _ => .nil, b⟩
theorem at_non {fd : FuncData} {ps : List Str} (b : ∃ dus, Vals [V.non] dus ∧ Binds K fd ps dus) : ∃ dvs dus, Vals dvs dus ∧ (∀ F μ, IsAll K F μ dvs ([.non] : List D)) ∧ Binds K fd ps dus := by
  obtain ⟨dus, h1, h2⟩ := b
  exact ⟨[.non], dus, h1, fun _ _ => .cons .non .nil, h2⟩
theorem at_full {fd : FuncData} {ps : List Str} (b : ∃ dus, Vals ([] : List V) dus ∧ Binds K fd ps dus) : Binds K fd ps [] := by
  obtain ⟨dus, h1, h2⟩ := b
  cases h1
  exact h2
end
end Lm
set_option Elab.async false
set_option linter.all false
set_option maxRecDepth 100000
set_option maxHeartbeats 8000000
/-! What the interpreter is told of the defs, printed by a small program of mine. -/
namespace Lm
open PySem L2
def topS (i : Nat) : Stmt := PySem.Challenge.pw_stemloom_k03_forms_of_patterns.main.body.getD i (.Pass ⟨0, 0, 0, 0⟩)
def b_is_number : List Q := [.ret (.and_ (.isi (.v 0) .int) (.and_ (.not_ (.isi (.v 0) .bool)) (.chain .le .le (.v 1) (.v 0) (.v 2))))]
def e_is_number : Entry := ⟨"is_number", ["thing", "low", "high"], ["thing", "low", "high"], b_is_number, topS 10, []⟩
def b_is_run : List Q := [.ret (.and_ (.isi (.v 0) .str) (.and_ (.chain .le .le (.v 1) (.bi .len [.v 0]) (.v 2)) (.bi .all [.lc [3] (.nm 3) .val [.v 0] none (.cmp .inn (.v 3) (.c (.str [97, 98, 99, 100, 101, 102, 103, 104, 105, 106, 107, 108, 109, 110, 111, 112, 113, 114, 115, 116, 117, 118, 119, 120, 121, 122])))])))]
def e_is_run : Entry := ⟨"is_run", ["thing", "low", "high", "sign"], ["thing", "low", "high"], b_is_run, topS 11, []⟩
def b_is_entry : List Q := [.if_ (.cmp .is (.v 0) (.c .non)) [.ret (.c (.bl true))] [], .if_ (.or_ (.not_ (.isi (.v 0) .tuple)) (.or_ (.cmp .ne (.bi .len [.v 0]) (.c (.int 2))) (.not_ (.call "is_number" [.ix (.v 0) (.c (.int 0)), .c (.int 0), .bin .sub (.c (.int 3)) (.c (.int 1))])))) [.ret (.c (.bl false))] [], .ret (.call "is_run" [.ix (.v 0) (.c (.int 1)), .c (.int 0), .c (.int 6)])]
def e_is_entry : Entry := ⟨"is_entry", ["thing"], ["thing"], b_is_entry, topS 12, []⟩
def b_need_pattern : List Q := [.if_ (.or_ (.not_ (.isi (.v 0) .tuple)) (.or_ (.not_ (.chain .le .le (.c (.int 1)) (.bi .len [.v 0]) (.c (.int 8)))) (.cmp .nin (.v 1) (.tup [.c .non, .bi .len [.v 0]])))) [.raise "BadPattern" [.neg (.c (.int 1))]] [], .for_ (.tup [(.nm 2), (.nm 3)]) .enum [.v 0] [.if_ (.not_ (.call "is_entry" [.v 3])) [.raise "BadPattern" [.v 2]] []]]
def e_need_pattern : Entry := ⟨"need_pattern", ["pattern", "many", "cell", "entry"], ["pattern", "many"], b_need_pattern, topS 13, [.non]⟩
def b_stems_of : List Q := [.ret (.bin .add (.maxd (.lc [1] (.nm 1) .val [.v 0] (some (.cmp .isn (.v 1) (.c .non))) (.ix (.v 1) (.c (.int 0)))) 0) (.c (.int 1)))]
def e_stems_of : Entry := ⟨"stems_of", ["pattern", "entry"], ["pattern"], b_stems_of, topS 14, []⟩
def b_need_stems : List Q := [.if_ (.or_ (.not_ (.isi (.v 1) .tuple)) (.cmp .ne (.bi .len [.v 1]) (.call "stems_of" [.v 0]))) [.raise "BadStems" [.c (.str [110, 111, 116, 32, 97, 115, 32, 109, 97, 110, 121, 32, 115, 116, 101, 109, 115])]] [], .if_ (.not_ (.bi .all [.lc [2] (.nm 2) .val [.v 1] none (.call "is_run" [.v 2, .c (.int 1), .c (.int 8)])])) [.raise "BadStems" [.c (.str [110, 111, 32, 115, 116, 101, 109])]] []]
def e_need_stems : Entry := ⟨"need_stems", ["pattern", "stems", "stem"], ["pattern", "stems"], b_need_stems, topS 15, []⟩
def b_made : List Q := [.ret (.lc [2] (.nm 2) .val [.v 0] none (.ife (.cmp .is (.v 2) (.c .non)) (.c .non) (.bin .add (.ix (.v 1) (.ix (.v 2) (.c (.int 0)))) (.ix (.v 2) (.c (.int 1))))))]
def e_made : Entry := ⟨"made", ["pattern", "stems", "entry"], ["pattern", "stems"], b_made, topS 16, []⟩
def b_forms : List Q := [.expr (.calld "need_pattern" [.v 0] [.non]), .expr (.call "need_stems" [.v 0, .v 1]), .ret (.call "made" [.v 0, .v 1])]
def e_forms : Entry := ⟨"forms", ["pattern", "stems"], ["pattern", "stems"], b_forms, topS 17, []⟩
def b_law_dice : List Q := [.asg (.nm 2) (.v 1), .for_ (.nm 3) .val [.v 0] [.asg (.nm 2) (.bin .mod (.bin .add (.bin .mul (.v 2) (.c (.int 31))) (.bi .abs [.v 3])) (.c (.int 2147483647)))], .ret (.bin .add (.lst [.v 2, .c (.int 0)]) (.lc [3] (.nm 3) .val [.v 0] (some (.cmp .ge (.v 3) (.bin .pow (.c (.int 10)) (.c (.int 18))))) (.v 3)))]
def e_law_dice : Entry := ⟨"_law_dice", ["_law_script", "_law_k", "_law_found", "_law_cell"], ["_law_script", "_law_k"], b_law_dice, topS 19, []⟩
def b_law_off : List Q := [.if_ (.and_ (.cmp .eq (.ix (.v 0) (.c (.int 1))) (.c (.int 0))) (.cmp .gt (.bi .len [.v 0]) (.c (.int 2)))) [.set 0 (.c (.int 1)) (.pop1 0 (.c (.int 2)))] [], .if_ (.cmp .gt (.ix (.v 0) (.c (.int 1))) (.c (.int 0))) [.asg (.nm 2) (.bin .mod (.ix (.v 0) (.c (.int 1))) (.v 1)), .set 0 (.c (.int 1)) (.bin .fdiv (.ix (.v 0) (.c (.int 1))) (.v 1)), .ret (.v 2)] [], .set 0 (.c (.int 0)) (.bin .mod (.bin .add (.bin .mul (.ix (.v 0) (.c (.int 0))) (.c (.int 48271))) (.c (.int 11))) (.c (.int 2147483647))), .ret (.bin .mod (.bin .fdiv (.ix (.v 0) (.c (.int 0))) (.c (.int 64))) (.v 1))]
def e_law_off : Entry := ⟨"_law_off", ["_law_d", "_law_upto", "_law_found"], ["_law_d", "_law_upto"], b_law_off, topS 20, []⟩
def b_law_alike : List Q := [.if_ (.cmp .is (.v 1) (.c .non)) [.ret (.cmp .is (.v 0) (.c .non))] [], .if_ (.isi (.v 1) .bool) [.ret (.and_ (.isi (.v 0) .bool) (.cmp .eq (.v 0) (.v 1)))] [], .if_ (.isi (.v 1) .int) [.ret (.and_ (.isi (.v 0) .int) (.and_ (.not_ (.isi (.v 0) .bool)) (.cmp .eq (.v 0) (.v 1))))] [], .if_ (.isi (.v 1) .str) [.ret (.and_ (.isi (.v 0) .str) (.cmp .eq (.v 0) (.v 1)))] [], .if_ (.or_ (.cmp .ne (.isi (.v 1) .tuple) (.isi (.v 0) .tuple)) (.cmp .ne (.isi (.v 1) .list) (.isi (.v 0) .list))) [.ret (.c (.bl false))] [], .if_ (.cmp .ne (.bi .len [.v 0]) (.bi .len [.v 1])) [.ret (.c (.bl false))] [], .ret (.bi .all [.lc [2] (.nm 2) .rng1 [.bi .len [.v 1]] none (.call "_law_alike" [.ix (.v 0) (.v 2), .ix (.v 1) (.v 2)])])]
def e_law_alike : Entry := ⟨"_law_alike", ["_law_found", "_law_due", "_law_k"], ["_law_found", "_law_due"], b_law_alike, topS 21, []⟩
def b_law_text : List Q := [.ret (.bi .join [.c (.str []), .lc [4] (.nm 4) .rng1 [.bin .add (.v 1) (.call "_law_off" [.v 0, .bin .add (.bin .sub (.v 2) (.v 1)) (.c (.int 1))])] none (.ix (.v 3) (.call "_law_off" [.v 0, .bi .len [.v 3]]))])]
def e_law_text : Entry := ⟨"_law_text", ["_law_d", "_law_low", "_law_high", "_law_signs", "_law_k"], ["_law_d", "_law_low", "_law_high", "_law_signs"], b_law_text, topS 22, []⟩
def b_law_pattern : List Q := [.asg (.nm 2) (.bin .add (.c (.int 1)) (.ix (.lst [.c (.int 0), .c (.int 0), .c (.int 1), .c (.int 2)]) (.call "_law_off" [.v 0, .c (.int 4)]))), .asg (.nm 3) (.ix (.lst [.c (.str [97, 98]), .c (.str [97, 98, 99]), .c (.str [97])]) (.call "_law_off" [.v 0, .c (.int 3)])), .asg (.nm 4) (.ix (.lst [.c (.int 1), .c (.int 2), .c (.int 2), .c (.int 6)]) (.call "_law_off" [.v 0, .c (.int 4)])), .asg (.nm 5) (.ix (.lst [.c (.int 99), .c (.int 9), .c (.int 4)]) (.call "_law_off" [.v 0, .c (.int 3)])), .asg (.nm 6) (.lst []), .for_ (.nm 7) .rng1 [.v 1] [.asg (.nm 8) (.tup [.call "_law_off" [.v 0, .v 2], .call "_law_text" [.v 0, .c (.int 0), .v 4, .v 3]]), .app 6 (.ife (.cmp .eq (.call "_law_off" [.v 0, .v 5]) (.c (.int 3))) (.c .non) (.v 8))], .ret (.bi .tuple [.v 6])]
def e_law_pattern : Entry := ⟨"_law_pattern", ["_law_d", "_law_many", "_law_stems_here", "_law_signs", "_law_most", "_law_gaps", "_law_found", "_law_cell", "_law_entry"], ["_law_d", "_law_many"], b_law_pattern, topS 23, []⟩
def b_law_stems_of : List Q := [.ret (.bin .add (.bi .max [.bin .add (.lst [.c (.int 0)]) (.lc [1] (.nm 1) .val [.v 0] (some (.cmp .isn (.v 1) (.c .non))) (.ix (.v 1) (.c (.int 0))))]) (.c (.int 1)))]
def e_law_stems_of : Entry := ⟨"_law_stems_of", ["_law_pattern_here", "_law_entry"], ["_law_pattern_here"], b_law_stems_of, topS 24, []⟩
def b_law_stems : List Q := [.asg (.nm 2) (.ix (.lst [.c (.str [97, 98]), .c (.str [97, 98, 99])]) (.call "_law_off" [.v 0, .c (.int 2)])), .ret (.bi .tuple [.lc [3] (.nm 3) .rng1 [.call "_law_stems_of" [.v 1]] none (.call "_law_text" [.v 0, .c (.int 1), .ix (.lst [.c (.int 2), .c (.int 3), .c (.int 8)]) (.call "_law_off" [.v 0, .c (.int 3)]), .v 2])])]
def e_law_stems : Entry := ⟨"_law_stems", ["_law_d", "_law_pattern_here", "_law_signs", "_law_k"], ["_law_d", "_law_pattern_here"], b_law_stems, topS 25, []⟩
def b_law_forms : List Q := [.asg (.nm 2) (.lst []), .for_ (.nm 3) .val [.v 0] [.app 2 (.ife (.cmp .is (.v 3) (.c .non)) (.c .non) (.bin .add (.ix (.v 1) (.ix (.v 3) (.c (.int 0)))) (.ix (.v 3) (.c (.int 1)))))], .ret (.v 2)]
def e_law_forms : Entry := ⟨"_law_forms", ["_law_pattern_here", "_law_stems_here", "_law_found", "_law_entry"], ["_law_pattern_here", "_law_stems_here"], b_law_forms, topS 26, []⟩
def b_law : List Q := [.cel 1 (.call "_law_dice" [.v 0, .c (.int 0)]), .for_ (.nm 2) .rng1 [.c (.int 8)] [.asg (.nm 3) (.call "_law_pattern" [.v 1, .bin .add (.c (.int 1)) (.call "_law_off" [.v 1, .c (.int 8)])]), .asg (.nm 4) (.call "_law_stems" [.v 1, .v 3]), .for_ (.nm 5) .rng1 [.c (.int 2)] [.asg (.nm 6) (.call "forms" [.v 3, .v 4]), .if_ (.not_ (.callc "_law_alike" 6 (.call "_law_forms" [.v 3, .v 4]))) [.ret (.c (.bl false))] [], .clr 6]], .ret (.c (.bl true))]
def e_law : Entry := ⟨"law", ["_law_script", "_law_d", "_law_turn", "_law_pattern_here", "_law_stems_here", "_law_again", "_law_found"], ["_law_script"], b_law, topS 27, []⟩
def ents : List Entry := [e_is_number, e_is_run, e_is_entry, e_need_pattern, e_stems_of, e_need_stems, e_made, e_forms, e_law_dice, e_law_off, e_law_alike, e_law_text, e_law_pattern, e_law_stems_of, e_law_stems, e_law_forms, e_law]
def cons : List (Str × D) := [("LETTERS", (.str [97, 98, 99, 100, 101, 102, 103, 104, 105, 106, 107, 108, 109, 110, 111, 112, 113, 114, 115, 116, 117, 118, 119, 120, 121, 122])), ("MOST_CELLS", (.int 8)), ("MOST_STEMS", (.int 3)), ("MOST_ENDING", (.int 6)), ("MOST_STEM", (.int 8))]
end Lm
set_option Elab.async false
set_option linter.all false
set_option maxRecDepth 100000
set_option maxHeartbeats 8000000
namespace Lm
open PySem L2
theorem looks : ents.all (entB (globOf ents cons) 40) = true := by decide +kernel
end Lm
set_option Elab.async false
set_option linter.all false
set_option maxRecDepth 100000
set_option maxHeartbeats 4000000
/-! What the interpreter does, in plain words: calls, loops, the dice. -/
namespace Lm.Pl
open PySem
section
variable {C : Ctx} {s : S} {i j : Nat} {a b c e lo hi : T} {as : List T} {f : Str} {r : List (Option (D × Bool))} {g : List Cell} {d : D} {o : Bool} {q : Q} {qs : List Q} {x y : Int} {xs ys : List D} {k : Nat} {p : D × Bool} {u v : List Nat}
def rdO : Option (Option (D × Bool)) → S → R D
  | some (some p), s => .ok p.1 s
  | _, _ => .bad
@[simp] theorem rdO_s : rdO (some (some p)) s = .ok p.1 s := rfl
@[simp] theorem rd_mk : rd i ⟨r, g⟩ = rdO r[i]? ⟨r, g⟩ := by
  unfold rd rdO
  show (match r[i]? with | some (some p) => R.ok p.1 ⟨r, g⟩ | _ => .bad) = _
  split <;> simp_all
@[simp] theorem wr_mk : wr i p ⟨r, g⟩ = ⟨r.set i (some p), g⟩ := rfl
def lookC (s : S) : Option Cell → R D
  | some (.lst xs) => .ok (.lst xs) s
  | none => .bad
@[simp] theorem lookC_s : lookC s (some (.lst xs)) = .ok (.lst xs) s := rfl
def lookO (g : List Cell) : Option (Option (D × Bool)) → S → R D
  | some (some (.obj k, _)), s => lookC s g[k]?
  | some (some p), s => .ok p.1 s
  | _, s => .bad
@[simp] theorem look_mk : look i ⟨r, g⟩ = lookO g r[i]? ⟨r, g⟩ := by
  show (match r[i]? with
  | some (some (.obj k, _)) => (match g[k]? with | some (Cell.lst xs) => R.ok (D.lst xs) (⟨r, g⟩ : S) | none => .bad)
  | some (some p) => .ok p.1 ⟨r, g⟩
  | _ => .bad) = _
  rcases r[i]? with _ | _ | ⟨d, o⟩
  · rfl
  · rfl
  · cases d <;> first | rfl | (rename_i k; show (match g[k]? with | some (Cell.lst xs) => R.ok (D.lst xs) (⟨r, g⟩ : S) | none => .bad) = lookC _ g[k]?; rcases g[k]? with _ | ⟨⟨⟩⟩ <;> rfl)
@[simp] theorem lookO_obj : lookO g (some (some (.obj k, o))) s = lookC s g[k]? := rfl
@[simp] theorem lookO_int : lookO g (some (some (.int x, o))) s = .ok (.int x) s := rfl
@[simp] theorem lookO_str : lookO g (some (some (.str u, o))) s = .ok (.str u) s := rfl
@[simp] theorem lookO_tup : lookO g (some (some (.tup xs, o))) s = .ok (.tup xs) s := rfl
@[simp] theorem lookO_lst : lookO g (some (some (.lst xs, o))) s = .ok (.lst xs) s := rfl
@[simp] theorem lookO_non : lookO g (some (some (.non, o))) s = .ok .non s := rfl
@[simp] theorem lookO_bl {z : Bool} : lookO g (some (some (.bl z, o))) s = .ok (.bl z) s := rfl
@[simp] theorem getL_mk : getL i ⟨r, g⟩ = match r[i]? with
  | some (some (.lst xs, true)) => some xs
  | some (some (.obj k, _)) => match g[k]? with
    | some (.lst xs) => some xs
    | none => none
  | _ => none := rfl
theorem putL_obj (h : r[i]? = some (some (.obj k, o))) : putL i xs ⟨r, g⟩ = ⟨r, g.set k (.lst xs)⟩ := by
  show (match r[i]? with
    | some (some (.obj k, _)) => (⟨r, g.set k (.lst xs)⟩ : S)
    | _ => wr i (.lst xs, true) ⟨r, g⟩) = _
  rw [h]
theorem putL_own (h : r[i]? = some (some (.lst ys, true))) : putL i xs ⟨r, g⟩ = ⟨r.set i (some (.lst xs, true)), g⟩ := by
  show (match r[i]? with
    | some (some (.obj k, _)) => (⟨r, g.set k (.lst xs)⟩ : S)
    | _ => wr i (.lst xs, true) ⟨r, g⟩) = _
  rw [h]
  rfl
/-! expressions -/
@[simp] theorem ev_v : ev C (.v i) s = (rd i s).bind fun d s1 => .ok (d, false) (wr i (d, false) s1) := rfl
@[simp] theorem ev_c : ev C (.c d) s = .ok (d, false) s := rfl
@[simp] theorem ev_tup : ev C (.tup as) s = (evs C as s).bind fun ds s1 => if ds.length ≤ lim then .ok (.tup ds, false) s1 else .bad := rfl
@[simp] theorem ev_lst : ev C (.lst as) s = (evs C as s).bind fun ds s1 => if ds.length ≤ lim then .ok (.lst ds, true) s1 else .bad := rfl
@[simp] theorem ev_bin {o : BOp} : ev C (.bin o a b) s = (ev C a s).bind fun x s1 => (ev C b s1).bind fun y s2 => R.of (binD o x.1 y.1) s2 := rfl
def negR : D → S → R (D × Bool)
  | .int i, s => .ok (.int (-i), false) s
  | _, _ => .bad
@[simp] theorem negR_i : negR (.int x) s = .ok (.int (-x), false) s := rfl
@[simp] theorem ev_neg : ev C (.neg a) s = (ev C a s).bind fun x s1 => negR x.1 s1 := by
  show R.bind _ _ = R.bind _ _
  congr 1
  funext x s1
  obtain ⟨d, o⟩ := x
  cases d <;> rfl
@[simp] theorem ev_not : ev C (.not_ a) s = (ev C a s).bind fun x s1 => (R.of (asB x.1) s1).bind fun b s2 => .ok (.bl (!b), false) s2 := rfl
@[simp] theorem ev_and : ev C (.and_ a b) s = (ev C a s).bind fun x s1 => (R.of (asB x.1) s1).bind fun c s2 => if c then (ev C b s2).bind fun y s3 => (R.of (asB y.1) s3).bind fun d s4 => .ok (.bl d, false) s4 else .ok (.bl false, false) s2 := rfl
@[simp] theorem ev_or : ev C (.or_ a b) s = (ev C a s).bind fun x s1 => (R.of (asB x.1) s1).bind fun c s2 => if c then .ok (.bl true, false) s2 else (ev C b s2).bind fun y s3 => (R.of (asB y.1) s3).bind fun d s4 => .ok (.bl d, false) s4 := rfl
@[simp] theorem ev_cmp {o : COp} : ev C (.cmp o a b) s = (ev2 a b (fun s => ev C a s) (fun s => ev C b s) s).bind fun p s1 => (R.of (cmpD o p.1 p.2) s1).bind fun d s2 => .ok (.bl d, false) s2 := rfl
@[simp] theorem ev_chain {o p : COp} : ev C (.chain o p a b c) s = (ev C a s).bind fun x s1 => (ev C b s1).bind fun y s2 => (R.of (cmpD o x.1 y.1) s2).bind fun k s3 =>
      if k then (ev C c s3).bind fun z s4 => (R.of (cmpD p y.1 z.1) s4).bind fun d s5 => .ok (.bl d, false) s5 else .ok (.bl false, false) s3 := rfl
@[simp] theorem ev_ife : ev C (.ife c a b) s = (ev C c s).bind fun x s1 => (R.of (asB x.1) s1).bind fun k s2 => if k then ev C a s2 else ev C b s2 := rfl
@[simp] theorem ev_ix : ev C (.ix a b) s = (ev2 a b (fun s => ev C a s) (fun s => ev C b s) s).bind fun p s1 => (R.of (ixD p.1 p.2) s1).bind fun d s2 => .ok (d, false) s2 := rfl
@[simp] theorem ev_sl : ev C (.sl a lo hi) s = (ev C a s).bind fun x s1 => (evPart lo (fun s => ev C lo s) s1).bind fun l s2 => (evPart hi (fun s => ev C hi s) s2).bind fun h s3 => R.of (slD x.1 l h) s3 := rfl
@[simp] theorem ev_rev : ev C (.rev a) s = (ev C a s).bind fun x s1 => R.of (revD x.1) s1 := rfl
def callR (r : List (Option (D × Bool))) : R (D × Bool) → R (D × Bool)
  | .ok p s => .ok p ⟨r, s.g⟩
  | .exc c d s => .exc c d ⟨r, s.g⟩
  | .bad => .bad
@[simp] theorem callR_ok : callR r (.ok p s) = .ok p ⟨r, s.g⟩ := rfl
@[simp] theorem ev_call : ev C (.call f as) s = (evs C as s).bind fun ds s1 => callR s1.r (C.call f ds s1.g) := rfl
def callbR (r : List (Option (D × Bool))) : R (D × Bool) → R (D × Bool)
  | .ok p s => if flat p.1 && flatG s.g then .ok (p.1, false) ⟨r, s.g⟩ else .bad
  | .exc c d s => .exc c d ⟨r, s.g⟩
  | .bad => .bad
@[simp] theorem callbR_ok : callbR r (.ok p s) = if flat p.1 && flatG s.g then .ok (p.1, false) ⟨r, s.g⟩ else .bad := rfl
@[simp] theorem ev_callb {is : List Nat} : ev C (.callb f is) s = (lent is s).bind fun ds s1 => callbR s1.r (C.call f ds s1.g) := rfl
@[simp] theorem lent_nil : lent [] s = .ok [] s := rfl
@[simp] theorem lent_cons {is : List Nat} : lent (i :: is) s = (rd i s).bind fun d s1 => (lent is s1).bind fun ds s2 => .ok (d :: ds) s2 := rfl
@[simp] theorem ev_bi {h : Bi} : ev C (.bi h as) s = (evb as (fun s => evs C as s) s).bind fun ds s1 => R.of (biD h ds) s1 := rfl
@[simp] theorem ev_isi {h : Kd} : ev C (.isi a h) s = (ev C a s).bind fun x s1 => (R.of (isiD x.1 h) s1).bind fun b s2 => .ok (.bl b, false) s2 := rfl
@[simp] theorem evs_nil : evs C [] s = .ok [] s := rfl
@[simp] theorem evs_cons : evs C (a :: as) s = (ev C a s).bind fun x s1 => (evs C as s1).bind fun xs s2 => .ok (x.1 :: xs) s2 := rfl
@[simp] theorem evc_none : evc C none s = .ok true s := rfl
@[simp] theorem evc_some : evc C (some c) s = (ev C c s).bind fun x s1 => R.of (asB x.1) s1 := rfl
@[simp] theorem asB_bl {z : Bool} : asB (.bl z) = some z := rfl
@[simp] theorem evPart_none {k : S → R (D × Bool)} : evPart .none_ k s = .ok none s := rfl
def partR : D → S → R (Option Int)
  | .int i, s => .ok (some i) s
  | _, _ => .bad
@[simp] theorem partR_i : partR (.int x) s = .ok (some x) s := rfl
@[simp] theorem evPart_v {k : S → R (D × Bool)} : evPart (.v i) k s = (k s).bind fun x s1 => partR x.1 s1 := by
  show R.bind _ _ = R.bind _ _
  congr 1
  funext x s1
  obtain ⟨d, o⟩ := x
  cases d <;> rfl
@[simp] theorem evPart_c {k : S → R (D × Bool)} : evPart (.c d) k s = (k s).bind fun x s1 => partR x.1 s1 := by
  show R.bind _ _ = R.bind _ _
  congr 1
  funext x s1
  obtain ⟨d, o⟩ := x
  cases d <;> rfl
@[simp] theorem evPart_bin {k : S → R (D × Bool)} {o : BOp} : evPart (.bin o a b) k s = (k s).bind fun x s1 => partR x.1 s1 := by
  show R.bind _ _ = R.bind _ _
  congr 1
  funext x s1
  obtain ⟨d, o⟩ := x
  cases d <;> rfl
@[simp] theorem evPart_bi {k : S → R (D × Bool)} {h : Bi} : evPart (.bi h as) k s = (k s).bind fun x s1 => partR x.1 s1 := by
  show R.bind _ _ = R.bind _ _
  congr 1
  funext x s1
  obtain ⟨d, o⟩ := x
  cases d <;> rfl
@[simp] theorem evPart_neg {k : S → R (D × Bool)} : evPart (.neg a) k s = (k s).bind fun x s1 => partR x.1 s1 := by
  show R.bind _ _ = R.bind _ _
  congr 1
  funext x s1
  obtain ⟨d, o⟩ := x
  cases d <;> rfl
@[simp] theorem evPart_call {k : S → R (D × Bool)} : evPart (.call f as) k s = (k s).bind fun x s1 => partR x.1 s1 := by
  show R.bind _ _ = R.bind _ _
  congr 1
  funext x s1
  obtain ⟨d, o⟩ := x
  cases d <;> rfl
def isV : T → Option Nat
  | .v i => some i
  | _ => none
@[simp] theorem isV_v : isV (.v i) = some i := rfl
@[simp] theorem isV_c : isV (.c d) = none := rfl
@[simp] theorem isV_tup : isV (.tup as) = none := rfl
@[simp] theorem isV_lst : isV (.lst as) = none := rfl
@[simp] theorem isV_bin {o : BOp} : isV (.bin o a b) = none := rfl
@[simp] theorem isV_neg : isV (.neg a) = none := rfl
@[simp] theorem isV_ix : isV (.ix a b) = none := rfl
@[simp] theorem isV_sl : isV (.sl a lo hi) = none := rfl
@[simp] theorem isV_ife : isV (.ife a lo hi) = none := rfl
@[simp] theorem isV_call : isV (.call f as) = none := rfl
@[simp] theorem isV_bi {h : Bi} : isV (.bi h as) = none := rfl
@[simp] theorem isV_isi {h : Kd} : isV (.isi a h) = none := rfl
@[simp] theorem isV_lc {w : List Nat} {tg : Tg} {sk : SK} {cd : Option T} : isV (.lc w tg sk as cd e) = none := rfl
@[simp] theorem isV_pop0 : isV (.pop0 i) = none := rfl
@[simp] theorem isV_rev : isV (.rev a) = none := rfl
def ev2' : Option Nat → Option Nat → (S → R (D × Bool)) → (S → R (D × Bool)) → S → R (D × D)
  | some i, some j, _, _, s => (look i s).bind fun x s1 => (look j s1).bind fun y s2 => .ok (x, y) s2
  | some i, none, _, eb, s => (look i s).bind fun _ s0 => (eb s0).bind fun y s1 => (look i s1).bind fun x s2 => .ok (x, y.1) s2
  | none, some j, ea, _, s => (ea s).bind fun x s1 => (look j s1).bind fun y s2 => .ok (x.1, y) s2
  | none, none, ea, eb, s => (ea s).bind fun x s1 => (eb s1).bind fun y s2 => .ok (x.1, y.1) s2
@[simp] theorem ev2_eq {ea eb : S → R (D × Bool)} : ev2 a b ea eb s = ev2' (isV a) (isV b) ea eb s := by cases a <;> cases b <;> rfl
@[simp] theorem ev2_1 {ea eb : S → R (D × Bool)} : ev2' (some i) (some j) ea eb s = (look i s).bind fun x s1 => (look j s1).bind fun y s2 => .ok (x, y) s2 := rfl
@[simp] theorem ev2_2 {ea eb : S → R (D × Bool)} : ev2' (some i) none ea eb s = (look i s).bind fun _ s0 => (eb s0).bind fun y s1 => (look i s1).bind fun x s2 => .ok (x, y.1) s2 := rfl
@[simp] theorem ev2_3 {ea eb : S → R (D × Bool)} : ev2' none (some j) ea eb s = (ea s).bind fun x s1 => (look j s1).bind fun y s2 => .ok (x.1, y) s2 := rfl
@[simp] theorem ev2_4 {ea eb : S → R (D × Bool)} : ev2' none none ea eb s = (ea s).bind fun x s1 => (eb s1).bind fun y s2 => .ok (x.1, y.1) s2 := rfl
def evb' : Option Nat → (S → R (List D)) → S → R (List D)
  | some i, _, s => (look i s).bind fun d s1 => .ok [d] s1
  | none, k, s => k s
@[simp] theorem evb_1 {k : S → R (List D)} : evb' (some i) k s = (look i s).bind fun d s1 => .ok [d] s1 := rfl
@[simp] theorem evb_n {k : S → R (List D)} : evb' none k s = k s := rfl
@[simp] theorem evb_one {k : S → R (List D)} : evb [a] k s = evb' (isV a) k s := by cases a <;> rfl
@[simp] theorem evb_two {k : S → R (List D)} : evb (a :: b :: as) k s = k s := by cases a <;> rfl
@[simp] theorem rof_some {α : Type} {z : α} : R.of (some z) s = .ok z s := rfl
/-! operations -/
@[simp] theorem b_add : binD .add (.int x) (.int y) = some (.int (x + y), false) := rfl
@[simp] theorem b_sub : binD .sub (.int x) (.int y) = some (.int (x - y), false) := rfl
@[simp] theorem b_mul : binD .mul (.int x) (.int y) = if y.natAbs < 2 ^ 63 ∨ x.natAbs < 2 ^ 63 then some (.int (x * y), false) else none := rfl
@[simp] theorem b_fdiv : binD .fdiv (.int x) (.int y) = if y ≠ 0 ∧ y.natAbs < 1073741824 then some (.int (x.fdiv y), false) else none := rfl
@[simp] theorem b_mod : binD .mod (.int x) (.int y) = if y ≠ 0 then some (.int (x.fmod y), false) else none := rfl
@[simp] theorem b_pow : binD .pow (.int x) (.int y) = if 0 ≤ y ∧ y ≤ 1000000 ∧ x.natAbs < 2 ^ 64 then some (.int (x ^ y.toNat), false) else none := rfl
@[simp] theorem b_adds : binD .add (.str u) (.str v) = if u.length + v.length ≤ lim then some (.str (u ++ v), false) else none := rfl
@[simp] theorem b_addl : binD .add (.lst xs) (.lst ys) = if xs.length + ys.length ≤ lim then some (.lst (xs ++ ys), true) else none := rfl
@[simp] theorem b_addt : binD .add (.tup xs) (.tup ys) = if xs.length + ys.length ≤ lim then some (.tup (xs ++ ys), false) else none := rfl
@[simp] theorem b_muls : binD .mul (.str u) (.int y) = if y.natAbs ≤ 1000 ∧ u.length ≤ 1000 then some (.str (List.replicate y.toNat u).flatten, false) else none := rfl
@[simp] theorem c_lt : cmpD .lt (.int x) (.int y) = some (decide (x < y)) := rfl
@[simp] theorem c_le : cmpD .le (.int x) (.int y) = some (decide (x ≤ y)) := rfl
@[simp] theorem c_gt : cmpD .gt (.int x) (.int y) = some (decide (y < x)) := rfl
@[simp] theorem c_ge : cmpD .ge (.int x) (.int y) = some (decide (y ≤ x)) := rfl
@[simp] theorem c_eqi : cmpD .eq (.int x) (.int y) = some (x == y) := rfl
@[simp] theorem c_nei : cmpD .ne (.int x) (.int y) = some (!(x == y)) := rfl
@[simp] theorem c_eqs : cmpD .eq (.str u) (.str v) = some (u == v) := rfl
@[simp] theorem c_nes : cmpD .ne (.str u) (.str v) = some (!(u == v)) := rfl
@[simp] theorem c_eqb {z w : Bool} : cmpD .eq (.bl z) (.bl w) = some (z == w) := rfl
@[simp] theorem c_neb {z w : Bool} : cmpD .ne (.bl z) (.bl w) = some (!(z == w)) := rfl
@[simp] theorem c_ins {z : Nat} : cmpD .inn (.str [z]) (.str v) = some (decide (z ∈ v)) := rfl
@[simp] theorem c_nins {z : Nat} : cmpD .nin (.str [z]) (.str v) = some (!decide (z ∈ v)) := rfl
@[simp] theorem i_lst : ixD (.lst xs) (.int x) = (ixOf xs.length x).bind fun k => xs[k]? := rfl
@[simp] theorem i_tup : ixD (.tup xs) (.int x) = (ixOf xs.length x).bind fun k => xs[k]? := rfl
@[simp] theorem i_str : ixD (.str u) (.int x) = if u.length ≤ lim then ((ixOf u.length x).bind fun k => u[k]?).map fun c => .str [c] else none := rfl
@[simp] theorem l_str : biD .len [.str u] = (if u.length ≤ lim then some u.length else none).map fun n : Nat => (.int n, false) := rfl
@[simp] theorem l_lst : biD .len [.lst xs] = some (.int xs.length, false) := rfl
@[simp] theorem l_tup : biD .len [.tup xs] = some (.int xs.length, false) := rfl
@[simp] theorem l_abs : biD .abs [.int x] = some (.int (if x < 0 then -x else x), false) := rfl
@[simp] theorem l_tuple : biD .tuple [.lst xs] = some (.tup xs, false) := rfl
@[simp] theorem l_all : biD .all [.lst xs] = (boolsD xs).map fun bs => (.bl (bs.all id), false) := rfl
@[simp] theorem l_join : biD .join [.str u, .lst xs] = (strsD xs).bind fun ss => if (joinL u ss).length ≤ lim ∧ ss.length ≤ lim ∧ u.length ≤ 3 then some (.str (joinL u ss), false) else none := rfl
@[simp] theorem s_str {l h : Option Int} : slD (.str u) l h = if u.length ≤ lim then some (.str (cut u l h), false) else none := rfl
@[simp] theorem s_tup {l h : Option Int} : slD (.tup xs) l h = some (.tup (cut xs l h), false) := rfl
@[simp] theorem s_lst {l h : Option Int} : slD (.lst xs) l h = some (.lst (cut xs l h), true) := rfl
@[simp] theorem r_lst : revD (.lst xs) = some (.lst xs.reverse, true) := rfl
@[simp] theorem src_lst : srcD .val [.lst xs] = some xs := rfl
@[simp] theorem src_tup : srcD .val [.tup xs] = some xs := rfl
@[simp] theorem src_str : srcD .val [.str u] = some (u.map fun c => .str [c]) := rfl
@[simp] theorem src_scr {ns : List Int} : srcD .val [.scr ns] = some (ns.map .int) := rfl
@[simp] theorem src_r1 : srcD .rng1 [.int x] = if x.natAbs < 2 ^ 60 then some (rangeD 0 x) else none := rfl
@[simp] theorem src_r2 : srcD .rng2 [.int x, .int y] = if y.natAbs < 2 ^ 60 ∧ x.natAbs < 2 ^ 60 then some (rangeD x y) else none := rfl
@[simp] theorem src_et : srcD .enum [.tup xs] = some (xs.zipIdx.map fun p => .tup [.int p.2, p.1]) := rfl
@[simp] theorem isi_s : isiD (.str u) .str = some true := rfl
@[simp] theorem isi_sb : isiD (.str u) .bool = some false := rfl
@[simp] theorem isi_si : isiD (.str u) .int = some false := rfl
@[simp] theorem isi_tt : isiD (.tup xs) .tuple = some true := rfl
/-! statements -/
def nxK (C : Ctx) (qs : List Q) : Ctl → S → R Ctl
  | .nx, s => exs C qs s
  | c, s => .ok c s
@[simp] theorem exs_nil : exs C [] s = .ok .nx s := rfl
@[simp] theorem exs_cons : exs C (q :: qs) s = (ex C q s).bind fun c s1 => nxK C qs c s1 := by
  show (ex C q s).bind _ = (ex C q s).bind _
  congr 1
  funext c s1
  cases c <;> rfl
@[simp] theorem nxK_nx : nxK C qs .nx s = exs C qs s := rfl
@[simp] theorem nxK_ret : nxK C qs (.ret d o) s = .ok (.ret d o) s := rfl
@[simp] theorem nxK_brk : nxK C qs .brk s = .ok .brk s := rfl
@[simp] theorem nxK_cnt : nxK C qs .cnt s = .ok .cnt s := rfl
@[simp] theorem ex_asg {tg : Tg} : ex C (.asg tg e) s = (ev C e s).bind fun p s1 => (bindT tg p.1 p.2 s1).bind fun _ s2 => .ok .nx s2 := rfl
@[simp] theorem bt_nm : bindT (.nm i) d o s = .ok () (wr i (d, o) s) := rfl
@[simp] theorem bt_tup {ts : List Tg} : bindT (.tup ts) (.tup xs) o s = bindTs ts xs s := rfl
@[simp] theorem bts_nil : bindTs [] [] s = .ok () s := rfl
@[simp] theorem bts_cons {t : Tg} {ts : List Tg} : bindTs (t :: ts) (d :: xs) s = (bindT t d false s).bind fun _ s1 => bindTs ts xs s1 := rfl
@[simp] theorem ex_if {x y : List Q} : ex C (.if_ c x y) s = (ev C c s).bind fun x_1 s1 => (R.of (asB x_1.1) s1).bind fun k s2 => if k then exs C x s2 else exs C y s2 := rfl
theorem ex_for {tg : Tg} {sk : SK} {sa : List T} {body : List Q} : ex C (.for_ tg sk sa body) s = (evs C sa s).bind fun ds s1 => (R.of (srcD sk ds) s1).bind fun xs s2 => forLoop (fun d s => bindT tg d false s) (fun s => exs C body s) xs s2 := rfl
theorem ex_wh {body : List Q} : ex C (.while_ c body) s = whLoop (fun s => (ev C c s).bind fun x s1 => R.of (asB x.1) s1) (fun s => exs C body s) C.fuel s := rfl
def retV (i : Nat) (s : S) : Option (Option (D × Bool)) → R Ctl
  | some (some p) => R.ok (Ctl.ret p.1 p.2) { s with r := s.r.set i none }
  | _ => .bad
@[simp] theorem retV_s : retV i s (some (some p)) = .ok (.ret p.1 p.2) ⟨s.r.set i none, s.g⟩ := rfl
@[simp] theorem ex_retv : ex C (.ret (.v i)) s = retV i s s.r[i]? := by
  show (match s.r[i]? with
      | some (some p) => R.ok (Ctl.ret p.1 p.2) { s with r := s.r.set i none }
      | _ => .bad) = _
  unfold retV
  split <;> simp_all
theorem ex_ret (h : ∀ i, e ≠ .v i) : ex C (.ret e) s = (ev C e s).bind fun p s1 => .ok (.ret p.1 p.2) s1 := by
  cases e <;> first | rfl | exact absurd rfl (h _)
@[simp] theorem ex_ret_c : ex C (.ret (.c d)) s = .ok (.ret d false) s := rfl
@[simp] theorem ex_ret_bin {o : BOp} : ex C (.ret (.bin o a b)) s = (ev C (.bin o a b) s).bind fun p s1 => .ok (.ret p.1 p.2) s1 := rfl
@[simp] theorem ex_ret_and : ex C (.ret (.and_ a b)) s = (ev C (.and_ a b) s).bind fun p s1 => .ok (.ret p.1 p.2) s1 := rfl
@[simp] theorem ex_ret_call : ex C (.ret (.call f as)) s = (ev C (.call f as) s).bind fun p s1 => .ok (.ret p.1 p.2) s1 := rfl
@[simp] theorem ex_ret_bi {h : Bi} : ex C (.ret (.bi h as)) s = (ev C (.bi h as) s).bind fun p s1 => .ok (.ret p.1 p.2) s1 := rfl
@[simp] theorem ex_ret_cmp {o : COp} : ex C (.ret (.cmp o a b)) s = (ev C (.cmp o a b) s).bind fun p s1 => .ok (.ret p.1 p.2) s1 := rfl
@[simp] theorem ex_ret_sl : ex C (.ret (.sl a lo hi)) s = (ev C (.sl a lo hi) s).bind fun p s1 => .ok (.ret p.1 p.2) s1 := rfl
@[simp] theorem ex_retN : ex C .retN s = .ok (.ret .non false) s := rfl
@[simp] theorem ex_expr : ex C (.expr e) s = (ev C e s).bind fun _ s1 => .ok .nx s1 := rfl
@[simp] theorem ex_aug {o : BOp} : ex C (.aug i o e) s = (rd i s).bind fun x s1 => (ev C e s1).bind fun y s2 => augK i o x y.1 s2 := rfl
@[simp] theorem aug_i {o : BOp} : augK i o (.int x) (.int y) s = (R.of (binD o (.int x) (.int y)) s).bind fun p s3 => .ok .nx (wr i (p.1, false) s3) := rfl
@[simp] theorem aug_s {o : BOp} : augK i o (.str u) (.str v) s = (R.of (binD o (.str u) (.str v)) s).bind fun p s3 => .ok .nx (wr i (p.1, false) s3) := rfl
@[simp] theorem fin_nx : finC (.ok .nx s) = .ok (.non, false) ⟨[], s.g⟩ := rfl
@[simp] theorem fin_ret : finC (.ok (.ret d o) s) = .ok (d, o) ⟨[], s.g⟩ := rfl
end
theorem call_eq {tab : Str → Option Fn} {wf n : Nat} {f : Str} {ds : List D} {g : List Cell} {F : Fn} (h : tab f = some F) (hl : ds.length = F.pars) : callD tab wf (n + 1) f ds g = finC (exs ⟨callD tab wf n, wf⟩ F.body (start F ds g)) := by
  show (match tab f with
    | some F => if ds.length = F.pars then finC (exs ⟨callD tab wf n, wf⟩ F.body (start F ds g)) else .bad
    | none => .bad) = _
  rw [h]
  exact if_pos hl
def offB : List Q := [.if_ (.and_ (.cmp .eq (.ix (.v 0) (.c (.int 1))) (.c (.int 0))) (.cmp .gt (.bi .len [.v 0]) (.c (.int 2)))) [.set 0 (.c (.int 1)) (.pop1 0 (.c (.int 2)))] [], .if_ (.cmp .gt (.ix (.v 0) (.c (.int 1))) (.c (.int 0))) [.asg (.nm 2) (.bin .mod (.ix (.v 0) (.c (.int 1))) (.v 1)), .set 0 (.c (.int 1)) (.bin .fdiv (.ix (.v 0) (.c (.int 1))) (.v 1)), .ret (.v 2)] [], .set 0 (.c (.int 0)) (.bin .mod (.bin .add (.bin .mul (.ix (.v 0) (.c (.int 0))) (.c (.int 48271))) (.c (.int 11))) (.c (.int 2147483647))), .ret (.bin .mod (.bin .fdiv (.ix (.v 0) (.c (.int 0))) (.c (.int 64))) (.v 1))]
def Dice (c : List D) : Prop := ∃ x y : Int, ∃ r : List Int, c = .int x :: .int y :: r.map .int
section
variable {C : Ctx} {r : List (Option (D × Bool))} {i j : Nat} {o : Bool} {l : List D} {x y z : Int} {e : T}
@[simp] theorem ix_0 {n : Nat} : ixOf (n + 1) 0 = some 0 := by unfold ixOf; simp
theorem ix_nat {n k : Nat} (h : k < n) : ixOf n (k : Int) = some k := by
  unfold ixOf
  rw [if_pos (by omega), if_pos (by omega)]
  rfl
theorem ix_lt {n : Nat} {x : Int} (h : 0 ≤ x) (k : x < n) : ixOf n x = some x.toNat := by
  unfold ixOf
  rw [if_pos h, if_pos k]
@[simp] theorem ix_1 {n : Nat} : ixOf (n + 1 + 1) 1 = some 1 := ix_nat (k := 1) (by omega)
@[simp] theorem ix_2 {n : Nat} : ixOf (n + 1 + 1 + 1) 2 = some 2 := ix_nat (k := 2) (by omega)
/-- a place of the dice is set -/
theorem set_dice {d : D} {k : Nat} {kk : Int} {c : List D} (h : ∀ s, s = ⟨r, [.lst c]⟩ → ev C e s = .ok (d, false) s) (hr : r[i]? = some (some (.obj 0, o))) (hk : ixOf c.length kk = some k) : ex C (.set i (.c (.int kk)) e) ⟨r, [.lst c]⟩ = .ok .nx ⟨r, [.lst (c.set k d)]⟩ := by
  show (ev C e ⟨r, [.lst c]⟩).bind _ = _
  rw [h _ rfl, R.bind_ok]
  simp only [getL_mk, hr, List.getElem?_cons_zero, ev_c, R.bind_ok, hk, putL_obj hr, List.set_cons_zero]
theorem pop_dice {c : List D} {d : D} (hr : r[i]? = some (some (.obj 0, o))) (hd : c[2]? = some d) : ev C (.pop1 i (.c (.int 2))) ⟨r, [.lst c]⟩ = .ok (d, false) ⟨r, [.lst (c.eraseIdx 2)]⟩ := by
  have hl := (List.getElem?_eq_some_iff.mp hd).1
  show (match getL i ⟨r, [.lst c]⟩ with | none => _ | some _ => _) = _
  simp only [getL_mk, hr, List.getElem?_cons_zero, ev_c, R.bind_ok, ix_nat (k := 2) hl, putL_obj hr, List.set_cons_zero, hd, ix_nat (k := 2) hl]
  rw [show ixOf c.length 2 = some 2 from ix_nat (k := 2) hl]
  simp only [hd]
  rfl
end
theorem off_ok {tab : Str → Option Fn} {wf n : Nat} {u : Int} {c : List D} (h : tab "_law_off" = some ⟨3, 2, offB⟩) (hc : Dice c) (h1 : 0 < u) (h2 : u < 1000000) :
    ∃ (r : Int) (c' : List D), Dice c' ∧ 0 ≤ r ∧ r < u ∧ callD tab wf (n + 1) "_law_off" [.obj 0, .int u] [.lst c] = .ok (.int r, false) ⟨[], [.lst c']⟩ := by
  rw [call_eq h rfl]
  obtain ⟨x, y, r, rfl⟩ := hc
  have hu0 : u ≠ 0 := by omega
  have hun : u.natAbs < 1073741824 := by omega
  have hf : ∀ z : Int, 0 ≤ z.fmod u ∧ z.fmod u < u := fun z => ⟨Int.fmod_nonneg_of_pos z h1, Int.fmod_lt_of_pos z h1⟩
  have key : ∀ (x y : Int) (l : List D), ∃ (r : Int) (x' y' : Int), 0 ≤ r ∧ r < u ∧ finC (exs ⟨callD tab wf n, wf⟩ (offB.drop 1) ⟨[some (.obj 0, false), some (.int u, false), none], [.lst (.int x :: .int y :: l)]⟩) = .ok (.int r, false) ⟨[], [.lst (.int x' :: .int y' :: l)]⟩ := by
    intro x y l
    by_cases hy : 0 < y
    · refine ⟨y.fmod u, x, y.fdiv u, (hf _).1, (hf _).2, ?_⟩
      have e1 := set_dice (C := ⟨callD tab wf n, wf⟩) (r := [some (.obj 0, false), some (.int u, false), some (.int (y.fmod u), false)]) (i := 0) (c := .int x :: .int y :: l) (k := 1) (kk := 1) (e := .bin .fdiv (.ix (.v 0) (.c (.int 1))) (.v 1)) (d := .int (y.fdiv u)) (o := false) (fun s hs => by subst hs; simp [hu0, hun]) rfl ix_1
      simp [offB, hu0, hun, hy, e1]
    · refine ⟨(((x * 48271 + 11).fmod 2147483647).fdiv 64).fmod u, (x * 48271 + 11).fmod 2147483647, y, (hf _).1, (hf _).2, ?_⟩
      have e1 := set_dice (C := ⟨callD tab wf n, wf⟩) (r := [some (.obj 0, false), some (.int u, false), none]) (i := 0) (c := .int x :: .int y :: l) (k := 0) (kk := 0) (e := (.bin .mod (.bin .add (.bin .mul (.ix (.v 0) (.c (.int 0))) (.c (.int 48271))) (.c (.int 11))) (.c (.int 2147483647)))) (d := .int ((x * 48271 + 11).fmod 2147483647)) (o := false) (fun s hs => by subst hs; simp [hu0, hun]) rfl ix_0
      simp [offB, hu0, hun, hy, e1]
  have split : ∀ s, exs ⟨callD tab wf n, wf⟩ offB s = (ex ⟨callD tab wf n, wf⟩ (offB.headD .pass_) s).bind fun c s1 => nxK ⟨callD tab wf n, wf⟩ (offB.drop 1) c s1 := fun s => exs_cons
  show ∃ r' c', Dice c' ∧ 0 ≤ r' ∧ r' < u ∧ finC (exs ⟨callD tab wf n, wf⟩ offB ⟨[some (.obj 0, false), some (.int u, false), none], [.lst (.int x :: .int y :: r.map .int)]⟩) = _
  rw [split]
  have fst : ∀ x' y' r', ex ⟨callD tab wf n, wf⟩ (offB.headD .pass_) ⟨[some (.obj 0, false), some (.int u, false), none], [.lst (.int x :: .int y :: r.map .int)]⟩ = .ok .nx ⟨[some (.obj 0, false), some (.int u, false), none], [.lst (.int x' :: .int y' :: List.map D.int r')]⟩ → ∃ r'' c', Dice c' ∧ 0 ≤ r'' ∧ r'' < u ∧ finC ((ex ⟨callD tab wf n, wf⟩ (offB.headD .pass_) ⟨[some (.obj 0, false), some (.int u, false), none], [.lst (.int x :: .int y :: r.map .int)]⟩).bind fun c s1 => nxK ⟨callD tab wf n, wf⟩ (offB.drop 1) c s1) = .ok (.int r'', false) ⟨[], [.lst c']⟩ := by
    intro x' y' r' e
    obtain ⟨r'', x2, y2, h3, h4, h5⟩ := key x' y' (r'.map .int)
    refine ⟨r'', _, ⟨x2, y2, r', rfl⟩, h3, h4, ?_⟩
    rw [e, R.bind_ok, nxK_nx]
    exact h5
  by_cases hy : y = 0
  · subst hy
    cases r with
    | nil => exact fst x 0 [] (by simp [offB])
    | cons z r =>
      refine fst x z r ?_
      have e2 : (2 : Int) < ((r.length : Int) + 1 + 1 + 1) := by omega
      have e3 : ex ⟨callD tab wf n, wf⟩ (.set 0 (.c (.int 1)) (.pop1 0 (.c (.int 2)))) ⟨[some (.obj 0, false), some (.int u, false), none], [.lst (.int x :: .int 0 :: (z :: r).map .int)]⟩ = .ok .nx ⟨[some (.obj 0, false), some (.int u, false), none], [.lst (.int x :: .int z :: r.map .int)]⟩ := by
        show (ev _ (.pop1 0 (.c (.int 2))) _).bind _ = _
        rw [pop_dice (d := .int z) rfl rfl, R.bind_ok]
        simp [putL, ix_1]
      simp [offB, e2, -ex_if] 
      simp [e2]
      rw [show List.map D.int (z :: r) = D.int z :: List.map D.int r from rfl] at e3
      rw [e3]
      rfl
  · exact fst x y r (by simp [offB, hy])
theorem for_inv {bindx : D → S → R Unit} {body : S → R Ctl} (I : S → Prop) : ∀ (xs : List D) (s : S), I s → (∀ x ∈ xs, ∀ s, I s → ∃ s1 s2, bindx x s = .ok () s1 ∧ body s1 = .ok .nx s2 ∧ I s2) → ∃ s', forLoop bindx body xs s = .ok .nx s' ∧ I s'
  | [], s, h, _ => ⟨s, rfl, h⟩
  | x :: xs, s, h, k => by
    obtain ⟨s1, s2, e1, e2, h2⟩ := k x List.mem_cons_self s h
    obtain ⟨s', e3, h3⟩ := for_inv I xs s2 h2 fun y hy => k y (List.mem_cons_of_mem _ hy)
    refine ⟨s', ?_, h3⟩
    show (bindx x s).bind _ = _
    rw [e1, R.bind_ok, e2, R.bind_ok]
    exact e3
theorem lc_inv {own : List Nat} {bindx : D → S → R Unit} {cond : S → R Bool} {elt : S → R (D × Bool)} (I : S → Prop) (P : D → Prop) : ∀ (xs acc : List D) (s : S), I s → acc.length + xs.length ≤ lim →
    (∀ x ∈ xs, ∀ s, I s → ∃ s1 s2 p s3, bindx x s = .ok () s1 ∧ cond s1 = .ok true s2 ∧ elt s2 = .ok p s3 ∧ P p.1 ∧ I (wipeS own s3)) → ∃ ys s', lcLoop own bindx cond elt xs acc s = .ok (acc ++ ys) s' ∧ ys.length = xs.length ∧ (∀ y ∈ ys, P y) ∧ I s'
  | [], acc, s, h, _, _ => ⟨[], s, by rw [List.append_nil]; rfl, rfl, fun _ q => (by cases q), h⟩
  | x :: xs, acc, s, h, hl, k => by
    rw [List.length_cons] at hl
    obtain ⟨s1, s2, p, s3, e1, e2, e3, hp, h2⟩ := k x List.mem_cons_self s h
    obtain ⟨ys, s', e4, h3, h4, h5⟩ := lc_inv I P xs (acc ++ [p.1]) _ h2 (by simp; omega) fun y hy => k y (List.mem_cons_of_mem _ hy)
    refine ⟨p.1 :: ys, s', ?_, by rw [List.length_cons, List.length_cons, h3], fun y q => ?_, h5⟩
    · show (bindx x s).bind _ = _
      rw [e1, R.bind_ok, e2, R.bind_ok]
      simp only [if_true]
      rw [e3, R.bind_ok, if_pos (by omega), e4, List.append_assoc]
      rfl
    · rcases List.mem_cons.mp q with rfl | q
      · exact hp
      · exact h4 y q
theorem lc_flt {own : List Nat} {bindx : D → S → R Unit} {cond : S → R Bool} {elt : S → R (D × Bool)} {s : S} (f : D → D) (p : D → Bool) : ∀ (xs acc : List D), acc.length + xs.length ≤ lim →
    (∀ x ∈ xs, ∃ s1 s2, bindx x s = .ok () s1 ∧ cond s1 = .ok (p x) s2 ∧ wipeS own s2 = s ∧ (p x = true → ∃ o s3, elt s2 = .ok (f x, o) s3 ∧ wipeS own s3 = s)) → lcLoop own bindx cond elt xs acc s = .ok (acc ++ (xs.filter p).map f) s
  | [], acc, _, _ => by rw [List.filter_nil, List.map_nil, List.append_nil]; rfl
  | x :: xs, acc, hl, k => by
    rw [List.length_cons] at hl
    obtain ⟨s1, s2, e1, e2, e3, h⟩ := k x List.mem_cons_self
    show (bindx x s).bind _ = _
    rw [e1, R.bind_ok, e2, R.bind_ok]
    cases c : p x with
    | true =>
      obtain ⟨o, s3, e4, e5⟩ := h c
      simp only [if_true]
      rw [e4, R.bind_ok, if_pos (by omega), e5, lc_flt f p xs _ (by simp; omega) (fun y hy => k y (List.mem_cons_of_mem _ hy)), List.append_assoc, List.filter_cons_of_pos c]
      rfl
    | false =>
      simp only [Bool.false_eq_true, if_false]
      rw [e3, lc_flt f p xs _ (by omega) (fun y hy => k y (List.mem_cons_of_mem _ hy)), List.filter_cons_of_neg (by rw [c]; exact Bool.false_ne_true)]
theorem lc_map {own : List Nat} {bindx : D → S → R Unit} {cond : S → R Bool} {elt : S → R (D × Bool)} {s : S} (f : D → D) (xs : List D) (hl : xs.length ≤ lim)
    (k : ∀ x ∈ xs, ∃ s1 s2 o s3, bindx x s = .ok () s1 ∧ cond s1 = .ok true s2 ∧ wipeS own s2 = s ∧ elt s2 = .ok (f x, o) s3 ∧ wipeS own s3 = s) : lcLoop own bindx cond elt xs [] s = .ok (xs.map f) s := by
  rw [lc_flt f (fun _ => true) xs [] (by simpa using hl) fun x hx => ?_]
  · rw [List.nil_append, List.filter_eq_self.mpr fun _ _ => rfl]
  · obtain ⟨s1, s2, o, s3, e1, e2, e3, e4, e5⟩ := k x hx
    exact ⟨s1, s2, e1, e2, e3, fun _ => ⟨o, s3, e4, e5⟩⟩
section
variable {C : Ctx} {s : S} {r : List (Option (D × Bool))} {g : List Cell}
theorem ev_lc {own : List Nat} {tg : Tg} {sk : SK} {sa : List T} {cond : Option T} {elt : T} : ev C (.lc own tg sk sa cond elt) s = (evs C sa s).bind fun ds s1 => (R.of (srcD sk ds) s1).bind fun xs s2 =>
      if calmS own s2 then
        (lcLoop own (fun d s => bindT tg d false s) (evc C cond) (fun s => ev C elt s) xs [] (wipeS own s2)).bind fun ys s3 => .ok (.lst ys, true) (backS own s2 s3)
      else .bad := rfl
theorem lc_run {own : List Nat} {tg : Tg} {sk : SK} {sa : List T} {cond : Option T} {elt : T} {ds xs ys : List D} {s1 s3 : S} (h1 : evs C sa s = .ok ds s1) (h2 : srcD sk ds = some xs) (h3 : calmS own s1 = true)
    (h4 : lcLoop own (fun d s => bindT tg d false s) (evc C cond) (fun s => ev C elt s) xs [] (wipeS own s1) = .ok ys s3) : ev C (.lc own tg sk sa cond elt) s = .ok (.lst ys, true) (backS own s1 s3) := by
  rw [ev_lc, h1, R.bind_ok, h2, rof_some, R.bind_ok, if_pos h3, h4, R.bind_ok]
theorem for_run {tg : Tg} {sk : SK} {sa : List T} {body : List Q} {ds xs : List D} {s1 s2 : S} {c : Ctl} (h1 : evs C sa s = .ok ds s1) (h2 : srcD sk ds = some xs) (h3 : forLoop (fun d s => bindT tg d false s) (fun s => exs C body s) xs s1 = .ok c s2) : ex C (.for_ tg sk sa body) s = .ok c s2 := by
  rw [ex_for, h1, R.bind_ok, h2, rof_some, R.bind_ok, h3]
@[simp] theorem wipe_one {i : Nat} : wipeS [i] ⟨r, g⟩ = ⟨r.set i none, g⟩ := rfl
end
theorem bools_map {α : Type} (f : α → D) (p : α → Bool) : ∀ (xs : List α), (∀ x ∈ xs, f x = .bl (p x)) → boolsD (xs.map f) = some (xs.map p)
  | [], _ => rfl
  | x :: xs, h => by
    rw [List.map_cons, h x List.mem_cons_self]
    show (boolsD (xs.map f)).map _ = _
    rw [bools_map f p xs fun y hy => h y (List.mem_cons_of_mem _ hy)]
    rfl
theorem strs_of (Z : List Nat → Prop) : ∀ (ys : List D), (∀ y ∈ ys, ∃ u, y = .str u ∧ Z u) → ∃ us, strsD ys = some us ∧ us.length = ys.length ∧ ∀ u ∈ us, Z u
  | [], _ => ⟨[], rfl, rfl, fun _ q => by cases q⟩
  | y :: ys, h => by
    obtain ⟨u, rfl, hu⟩ := h y List.mem_cons_self
    obtain ⟨us, e1, e2, e3⟩ := strs_of Z ys fun y hy => h y (List.mem_cons_of_mem _ hy)
    refine ⟨u :: us, by show (strsD ys).map _ = _; rw [e1]; rfl, by rw [List.length_cons, List.length_cons, e2], fun v q => ?_⟩
    rcases List.mem_cons.mp q with rfl | q
    · exact hu
    · exact e3 v q
theorem join_one (Z : Nat → Prop) : ∀ (us : List (List Nat)), (∀ u ∈ us, ∃ z, u = [z] ∧ Z z) → (joinL [] us).length = us.length ∧ ∀ z ∈ joinL [] us, Z z
  | [], _ => ⟨rfl, fun _ q => by cases q⟩
  | [u], h => by
    obtain ⟨z, rfl, hz⟩ := h u List.mem_cons_self
    exact ⟨rfl, fun y q => by rw [List.mem_singleton.mp q]; exact hz⟩
  | u :: v :: us, h => by
    obtain ⟨z, rfl, hz⟩ := h u List.mem_cons_self
    obtain ⟨e1, e2⟩ := join_one Z (v :: us) fun y hy => h y (List.mem_cons_of_mem _ hy)
    refine ⟨?_, fun y q => ?_⟩
    · show ([z] ++ ([] ++ joinL [] (v :: us))).length = _
      rw [List.length_append, List.nil_append, e1]
      simp; omega
    · have q : y ∈ [z] ++ ([] ++ joinL [] (v :: us)) := q
      rcases List.mem_append.mp q with q | q
      · rw [List.mem_singleton.mp q]; exact hz
      · exact e2 y q
@[simp] theorem range_len {a b : Int} : (rangeD a b).length = (b - a).toNat := by unfold rangeD; simp
theorem range_mem {a b : Int} {d : D} (h : d ∈ rangeD a b) : ∃ k : Int, d = .int k ∧ a ≤ k ∧ k < b := by
  unfold rangeD at h
  obtain ⟨k, hk, rfl⟩ := List.mem_map.mp h
  rw [List.mem_range] at hk
  exact ⟨_, rfl, by omega, by omega⟩
/-! ### what all laws share -/
def diceB : List Q := [.asg (.nm 2) (.v 1), .for_ (.nm 3) .val [.v 0] [.asg (.nm 2) (.bin .mod (.bin .add (.bin .mul (.v 2) (.c (.int 31))) (.bi .abs [.v 3])) (.c (.int 2147483647)))], .ret (.bin .add (.lst [.v 2, .c (.int 0)]) (.lc [3] (.nm 3) .val [.v 0] (some (.cmp .ge (.v 3) (.bin .pow (.c (.int 10)) (.c (.int 18))))) (.v 3)))]
def bigD : D → Bool
  | .int i => decide ((1000000000000000000 : Int) ≤ i)
  | _ => false
theorem dice_ok {tab : Str → Option Fn} {wf n : Nat} {k : Int} {ns : List Int} {g : List Cell} (h : tab "_law_dice" = some ⟨4, 2, diceB⟩) (hn : ns.length ≤ 63) :
    ∃ c, Dice c ∧ callD tab wf (n + 1) "_law_dice" [.scr ns, .int k] g = .ok (.lst c, true) ⟨[], g⟩ := by
  rw [call_eq h rfl]
  obtain ⟨s', e1, z, q, e2⟩ := for_inv (bindx := fun d s => bindT (.nm 3) d false s) (body := fun s => exs ⟨callD tab wf n, wf⟩ [.asg (.nm 2) (.bin .mod (.bin .add (.bin .mul (.v 2) (.c (.int 31))) (.bi .abs [.v 3])) (.c (.int 2147483647)))] s)
    (fun s => ∃ (z : Int) (q : Option (D × Bool)), s = ⟨[some (.scr ns, false), some (.int k, false), some (.int z, false), q], g⟩ ∧ ∀ d o, q = some (d, o) → o = false) (ns.map .int) ⟨[some (.scr ns, false), some (.int k, false), some (.int k, false), none], g⟩ ⟨k, none, rfl, fun _ _ q => by cases q⟩ (by
      rintro x hx s ⟨z, q, rfl, hq⟩
      obtain ⟨i, _, rfl⟩ := List.mem_map.mp hx
      refine ⟨⟨[some (.scr ns, false), some (.int k, false), some (.int z, false), some (.int i, false)], g⟩, _, rfl, (by simp; rfl), _, some (.int i, false), rfl, fun d o e => by cases e; rfl⟩)
  obtain ⟨rfl, hq⟩ := e2
  refine ⟨.int z :: .int 0 :: (ns.filter (fun i => decide ((1000000000000000000 : Int) ≤ i))).map .int, ⟨z, 0, _, rfl⟩, ?_⟩
  have cl : calmS [3] ⟨[some (.scr ns, false), some (.int k, false), some (.int z, false), q], g⟩ = true := by
    rcases q with _ | ⟨d, o⟩
    · rfl
    · rw [hq d o rfl]; rfl
  have e3 := lc_flt (own := [3]) (bindx := fun d s => bindT (.nm 3) d false s) (cond := evc ⟨callD tab wf n, wf⟩ (some (.cmp .ge (.v 3) (.bin .pow (.c (.int 10)) (.c (.int 18)))))) (elt := fun s => ev ⟨callD tab wf n, wf⟩ (.v 3) s) (s := ⟨[some (.scr ns, false), some (.int k, false), some (.int z, false), none], g⟩) id bigD (ns.map .int) [] (by simp; unfold lim; omega) (by
    intro x hx
    obtain ⟨i, _, rfl⟩ := List.mem_map.mp hx
    refine ⟨⟨[some (.scr ns, false), some (.int k, false), some (.int z, false), some (.int i, false)], g⟩, ⟨[some (.scr ns, false), some (.int k, false), some (.int z, false), some (.int i, false)], g⟩, rfl, (by simp [bigD]), rfl, fun _ => ⟨false, ⟨[some (.scr ns, false), some (.int k, false), some (.int z, false), some (.int i, false)], g⟩, (by simp), rfl⟩⟩)
  have e4 := for_run (C := ⟨callD tab wf n, wf⟩) (tg := .nm 3) (sk := .val) (sa := [.v 0]) (s := ⟨[some (.scr ns, false), some (.int k, false), some (.int k, false), none], g⟩) rfl src_scr e1
  have e5 := lc_run (C := ⟨callD tab wf n, wf⟩) (sk := .val) (sa := [.v 0]) (s := ⟨[some (.scr ns, false), some (.int k, false), some (.int z, false), q], g⟩) rfl src_scr cl e3
  show finC (exs _ diceB ⟨[some (.scr ns, false), some (.int k, false), none, none], g⟩) = _
  have fl : ∀ ns : List Int, List.filter bigD (ns.map .int) = (ns.filter (fun i => decide ((1000000000000000000 : Int) ≤ i))).map .int := fun ns => by
    induction ns with
    | nil => rfl
    | cons a r ih =>
      by_cases c : (1000000000000000000 : Int) ≤ a
      · simp [bigD, c, ih]
      · simp [bigD, c, ih]
  have ll : 2 + (ns.filter (fun i => decide ((1000000000000000000 : Int) ≤ i))).length ≤ lim := by
    have := List.length_filter_le (fun i => decide ((1000000000000000000 : Int) ≤ i)) ns
    unfold lim; omega
  simp only [diceB, exs_cons, ex_asg, e4, e5, ev_v, rd_mk, rdO_s, wr_mk, List.getElem?_cons_zero, List.getElem?_cons_succ, R.bind_ok, List.set_cons_zero, List.set_cons_succ, nxK_nx, bt_nm, ex_ret_bin, ev_bin, ev_lst, evs_cons, evs_nil, ev_c, fl, List.map_id, List.nil_append, List.length_cons, List.length_nil]
  rw [if_pos (by unfold lim; omega), R.bind_ok]
  dsimp only
  rw [e5]
  simp [fl]
  rw [if_pos (by omega)]
  rfl
def textB : List Q := [.ret (.bi .join [.c (.str []), .lc [4] (.nm 4) .rng1 [.bin .add (.v 1) (.call "_law_off" [.v 0, .bin .add (.bin .sub (.v 2) (.v 1)) (.c (.int 1))])] none (.ix (.v 3) (.call "_law_off" [.v 0, .bi .len [.v 3]]))])]
theorem text_ok {tab : Str → Option Fn} {wf n : Nat} {lo hi : Int} {sg : List Nat} {c : List D} (h : tab "_law_text" = some ⟨5, 4, textB⟩) (ho : tab "_law_off" = some ⟨3, 2, offB⟩) (hc : Dice c) (h1 : 0 ≤ lo) (h2 : lo ≤ hi) (h3 : hi ≤ 1000) (h4 : sg ≠ []) (h5 : sg.length ≤ 1000) :
    ∃ (t : List Nat) (c' : List D), Dice c' ∧ lo ≤ t.length ∧ (t.length : Int) ≤ hi ∧ (∀ z ∈ t, z ∈ sg) ∧ callD tab wf (n + 2) "_law_text" [.obj 0, .int lo, .int hi, .str sg] [.lst c] = .ok (.str t, false) ⟨[], [.lst c']⟩ := by
  rw [call_eq h rfl]
  obtain ⟨m, c1, hc1, m1, m2, e1⟩ := off_ok (wf := wf) (n := n) (u := hi - lo + 1) ho hc (by omega) (by omega)
  have l0 : 0 < sg.length := List.length_pos_iff.mpr h4
  have llim : sg.length ≤ lim := by unfold lim; omega
  obtain ⟨ys, s', e2, e3, e4, c2, hc2, rfl⟩ := lc_inv (own := [4]) (bindx := fun d s => bindT (.nm 4) d false s) (cond := evc ⟨callD tab wf (n + 1), wf⟩ none) (elt := fun s => ev ⟨callD tab wf (n + 1), wf⟩ (.ix (.v 3) (.call "_law_off" [.v 0, .bi .len [.v 3]])) s)
    (fun s => ∃ c, Dice c ∧ s = ⟨[some (.obj 0, false), some (.int lo, false), some (.int hi, false), some (.str sg, false), none], [.lst c]⟩) (fun d => ∃ u, d = .str u ∧ ∃ z, u = [z] ∧ z ∈ sg) (rangeD 0 (lo + m)) [] ⟨[some (.obj 0, false), some (.int lo, false), some (.int hi, false), some (.str sg, false), none], [.lst c1]⟩ ⟨c1, hc1, rfl⟩ (by simp; unfold lim; omega) (by
      rintro x hx s ⟨c, hc, rfl⟩
      obtain ⟨q, c2, hc2, q1, q2, e2⟩ := off_ok (wf := wf) (n := n) (u := sg.length) ho hc (by omega) (by omega)
      have q3 : q.toNat < sg.length := by omega
      refine ⟨⟨[some (.obj 0, false), some (.int lo, false), some (.int hi, false), some (.str sg, false), some (x, false)], [.lst c]⟩, _, (.str [sg[q.toNat]], false), ⟨[some (.obj 0, false), some (.int lo, false), some (.int hi, false), some (.str sg, false), some (x, false)], [.lst c2]⟩, rfl, rfl, ?_, ⟨_, rfl, _, rfl, List.getElem_mem q3⟩, c2, hc2, rfl⟩
      simp [llim, e2, ix_lt q1 q2, q3])
  obtain ⟨us, f1, f2, f3⟩ := strs_of (fun u => ∃ z, u = [z] ∧ z ∈ sg) ys e4
  obtain ⟨g1, g2⟩ := join_one (· ∈ sg) us f3
  simp only [range_len] at e3
  refine ⟨joinL [] us, c2, hc2, by omega, by omega, g2, ?_⟩
  have e5 := lc_run (C := ⟨callD tab wf (n + 1), wf⟩) (sk := .rng1) (sa := [.bin .add (.v 1) (.call "_law_off" [.v 0, .bin .add (.bin .sub (.v 2) (.v 1)) (.c (.int 1))])]) (s := ⟨[some (.obj 0, false), some (.int lo, false), some (.int hi, false), some (.str sg, false), none], [.lst c]⟩) (ds := [.int (lo + m)]) (s1 := ⟨[some (.obj 0, false), some (.int lo, false), some (.int hi, false), some (.str sg, false), none], [.lst c1]⟩) (by simp [e1]) (by rw [src_r1, if_pos (by omega)]) rfl e2
  show finC (exs _ textB ⟨[some (.obj 0, false), some (.int lo, false), some (.int hi, false), some (.str sg, false), none], [.lst c]⟩) = _
  simp only [textB, exs_cons, ex_ret_bi, ev_bi, evb_two, evs_cons, evs_nil, ev_c, e5, R.bind_ok, List.nil_append, l_join, f1, Option.bind_some]
  rw [if_pos (by unfold lim; simp; omega)]
  rfl
def alikeB : List Q := [.if_ (.cmp .is (.v 1) (.c .non)) [.ret (.cmp .is (.v 0) (.c .non))] [], .if_ (.isi (.v 1) .bool) [.ret (.and_ (.isi (.v 0) .bool) (.cmp .eq (.v 0) (.v 1)))] [], .if_ (.isi (.v 1) .int) [.ret (.and_ (.isi (.v 0) .int) (.and_ (.not_ (.isi (.v 0) .bool)) (.cmp .eq (.v 0) (.v 1))))] [], .if_ (.isi (.v 1) .str) [.ret (.and_ (.isi (.v 0) .str) (.cmp .eq (.v 0) (.v 1)))] [], .if_ (.or_ (.cmp .ne (.isi (.v 1) .tuple) (.isi (.v 0) .tuple)) (.cmp .ne (.isi (.v 1) .list) (.isi (.v 0) .list))) [.ret (.c (.bl false))] [], .if_ (.cmp .ne (.bi .len [.v 0]) (.bi .len [.v 1])) [.ret (.c (.bl false))] [], .ret (.bi .all [.lc [2] (.nm 2) .rng1 [.bi .len [.v 1]] none (.call "_law_alike" [.ix (.v 0) (.v 2), .ix (.v 1) (.v 2)])])]
theorem c_isn {u : List Nat} : cmpD .is (.str u) .non = some false := rfl
theorem alike_str {tab : Str → Option Fn} {wf n : Nat} {u : List Nat} {g : List Cell} (h : tab "_law_alike" = some ⟨3, 2, alikeB⟩) : callD tab wf (n + 1) "_law_alike" [.str u, .str u] g = .ok (.bl true, false) ⟨[], g⟩ := by
  rw [call_eq h rfl]
  show finC (exs _ alikeB ⟨[some (.str u, false), some (.str u, false), none], g⟩) = _
  simp [alikeB, c_isn]
end Lm.Pl
set_option Elab.async false
set_option linter.all false
set_option maxRecDepth 100000
set_option maxHeartbeats 4000000
/-! k05, the plain law: sounds read from the left, and places replaced from the right. -/
namespace Lm.Pl
open PySem
/-! ### slices -/
def seg (W : List Nat) (i k : Nat) : List Nat := (W.take (i + k)).drop i
theorem cut_nat {α : Type} (W : List α) (i j : Nat) : cut W (some (i : Int)) (some (j : Int)) = (W.take j).drop i := by
  unfold cut
  simp only
  have hi : (if (i : Int) < 0 then if (i : Int) + W.length < 0 then 0 else (i : Int) + W.length else if (i : Int) < W.length then (i : Int) else W.length).toNat = min i W.length := by
    rw [if_neg (by omega)]
    split <;> omega
  have hj : (if (j : Int) < 0 then if (j : Int) + W.length < 0 then 0 else (j : Int) + W.length else if (j : Int) < W.length then (j : Int) else W.length).toNat = min j W.length := by
    rw [if_neg (by omega)]
    split <;> omega
  rw [hi, hj]
  have e1 : W.take (min j W.length) = W.take j := by
    rcases Nat.le_total j W.length with h | h
    · rw [Nat.min_eq_left h]
    · rw [Nat.min_eq_right h, List.take_length, List.take_of_length_le h]
  rw [e1]
  rcases Nat.le_total i W.length with h | h
  · rw [Nat.min_eq_left h]
  · rw [Nat.min_eq_right h, List.drop_eq_nil_of_le (by rw [List.length_take]; omega), List.drop_eq_nil_of_le (by rw [List.length_take]; omega)]
theorem cut_to {α : Type} (W : List α) (j : Nat) : cut W none (some (j : Int)) = W.take j := by
  have h := cut_nat W 0 j
  rw [List.drop_zero] at h
  rw [← h]
  have hb : (if ((0 : Nat) : Int) < 0 then if ((0 : Nat) : Int) + W.length < 0 then 0 else ((0 : Nat) : Int) + W.length else if ((0 : Nat) : Int) < W.length then ((0 : Nat) : Int) else W.length) = 0 := by
    rw [if_neg (by omega)]
    split <;> omega
  unfold cut
  simp only [hb]
theorem cut_from {α : Type} (W : List α) (i : Nat) : cut W (some (i : Int)) none = W.drop i := by
  have h := cut_nat W i W.length
  rw [List.take_length] at h
  rw [← h]
  have hb : (if (W.length : Int) < 0 then if (W.length : Int) + W.length < 0 then 0 else (W.length : Int) + W.length else if (W.length : Int) < W.length then (W.length : Int) else W.length) = W.length := by
    rw [if_neg (by omega), if_neg (by omega)]
  unfold cut
  simp only [hb]
/-! ### the two ways -/
section
variable (P : Nat → Bool) (m : Nat) (E L : Nat) (W n : List Nat)
inductive Greedy : Nat → List Nat → Prop
  | done {a : Nat} : E ≤ a → Greedy a []
  | hit {a : Nat} {l : List Nat} : a < E → P a = true → Greedy (a + m) l → Greedy a (a :: l)
  | miss {a : Nat} {l : List Nat} : a < E → P a = false → Greedy (a + 1) l → Greedy a l
inductive Led : Nat → List Nat → Prop
  | done : Led L []
  | hit {a : Nat} {o : List Nat} : a < L → P a = true → Led (a + m) o → Led a (n ++ o)
  | miss {a c : Nat} {o : List Nat} : a < L → P a = false → W[a]? = some c → Led (a + 1) o → Led a (c :: o)
def stepP (pl : List Nat) (a : Nat) : List Nat := if P a && (match pl.getLast? with | none => true | some z => decide (z + m ≤ a)) then pl ++ [a] else pl
def nextP (pl : List Nat) : Nat := match pl.getLast? with | none => 0 | some z => z + m
def rep (l : List Nat) : List Nat := l.foldr (fun a X => X.take a ++ n ++ X.drop (a + m)) W
end
variable {P : Nat → Bool} {m : Nat} {E L : Nat} {W n : List Nat}
theorem fold_greedy (hm : 1 ≤ m) : ∀ (cnt a0 : Nat) (pl : List Nat), a0 + cnt = E → ∃ l, Greedy P m E (max a0 (nextP m pl)) l ∧ (List.range' a0 cnt).foldl (stepP P m) pl = pl ++ l
  | 0, a0, pl, h => ⟨[], .done (by omega), by rw [List.append_nil]; rfl⟩
  | cnt + 1, a0, pl, h => by
    rw [List.range'_succ, List.foldl_cons]
    have nx : nextP m (pl ++ [a0]) = a0 + m := by unfold nextP; simp
    cases hp : P a0 with
    | false =>
      have e : stepP P m pl a0 = pl := by unfold stepP; rw [hp]; rfl
      rw [e]
      obtain ⟨l, h1, h2⟩ := fold_greedy hm cnt (a0 + 1) pl (by omega)
      refine ⟨l, ?_, h2⟩
      rcases Nat.lt_or_ge a0 (nextP m pl) with c | c
      · rwa [show max a0 (nextP m pl) = max (a0 + 1) (nextP m pl) from by omega]
      · rw [show max a0 (nextP m pl) = a0 from by omega]
        rw [show max (a0 + 1) (nextP m pl) = a0 + 1 from by omega] at h1
        exact .miss (by omega) hp h1
    | true =>
      rcases Nat.lt_or_ge a0 (nextP m pl) with c | c
      · have e : stepP P m pl a0 = pl := by
          unfold stepP
          rw [hp, if_neg]
          unfold nextP at c
          cases g : pl.getLast? with
          | none => rw [g] at c; simp at c
          | some z => rw [g] at c; simp at c; simp; omega
        rw [e]
        obtain ⟨l, h1, h2⟩ := fold_greedy hm cnt (a0 + 1) pl (by omega)
        exact ⟨l, by rwa [show max a0 (nextP m pl) = max (a0 + 1) (nextP m pl) from by omega], h2⟩
      · have e : stepP P m pl a0 = pl ++ [a0] := by
          unfold stepP
          rw [hp, if_pos]
          unfold nextP at c
          cases g : pl.getLast? with
          | none => simp
          | some z => rw [g] at c; simp at c; simp; omega
        rw [e]
        obtain ⟨l, h1, h2⟩ := fold_greedy hm cnt (a0 + 1) (pl ++ [a0]) (by omega)
        rw [nx, show max (a0 + 1) (a0 + m) = a0 + m from by omega] at h1
        refine ⟨a0 :: l, ?_, by rw [h2, List.append_assoc]; rfl⟩
        rw [show max a0 (nextP m pl) = a0 from by omega]
        exact .hit (by omega) hp h1
theorem rep_led (hm : 1 ≤ m) (hE : E + m = W.length) (hL : L + 1 = W.length) (hP : ∀ a, P a = true → a + m ≤ L) : ∀ {a : Nat} {o : List Nat}, Led P m L W n a o → ∀ {l : List Nat}, Greedy P m E a l → rep m W n l = W.take a ++ o ++ W.drop L := by
  intro a o h
  induction h with
  | done =>
    intro l g
    cases g with
    | done _ => show W = _; rw [List.append_nil, List.take_append_drop]
    | hit c p _ => omega
    | miss c _ _ => omega
  | hit c p r ih =>
    rename_i a o
    intro l g
    have := hP _ p
    cases g with
    | done c2 => omega
    | miss _ p2 _ => rw [p] at p2; cases p2
    | @hit _ l _ _ g2 =>
      show (rep m W n l).take a ++ n ++ (rep m W n l).drop (a + m) = _
      rw [ih g2]
      have l1 : (W.take (a + m)).length = a + m := by rw [List.length_take]; omega
      rw [List.append_assoc (W.take (a + m))]
      rw [List.take_append_of_le_length (by omega), List.take_take, Nat.min_eq_left (by omega), List.drop_append_of_le_length (by omega), List.drop_eq_nil_of_le (by omega), List.nil_append]
      simp only [List.append_assoc]
  | miss c p w r ih =>
    intro l g
    rename_i a ch o
    have key : Greedy P m E (a + 1) l → rep m W n l = W.take a ++ ch :: o ++ W.drop L := fun g2 => by
      rw [ih g2, List.take_add_one, w]
      simp
    cases g with
    | done c2 => exact key (.done (by omega))
    | miss _ _ g2 => exact key g2
    | hit _ p2 _ => rw [p] at p2; cases p2
theorem led_len {o : List Nat} {a : Nat} (hm : 1 ≤ m) (hn : n.length ≤ 2) (h : Led P m L W n a o) : o.length ≤ 2 * (L - a) ∨ L < a := by
  induction h with
  | done => exact .inl (by simp)
  | hit c p r ih =>
    rename_i a o
    rw [List.length_append]
    rcases ih with ih | ih
    · exact .inl (by omega)
    · exfalso
      cases r with
      | done => omega
      | hit c _ _ => omega
      | miss c _ _ _ => omega
  | miss c p w r ih =>
    rw [List.length_cons]
    omega
theorem led_mem {o : List Nat} {a : Nat} {Z : Nat → Prop} (hn : ∀ z ∈ n, Z z) (hW : ∀ i c, a ≤ i → i < L → W[i]? = some c → Z c) (h : Led P m L W n a o) : ∀ z ∈ o, Z z := by
  induction h with
  | done => intro z q; cases q
  | hit c p r ih =>
    intro z q
    rcases List.mem_append.mp q with q | q
    · exact hn z q
    · exact ih (fun i c h1 h2 h3 => hW i c (by omega) h2 h3) z q
  | miss c p w r ih =>
    intro z q
    rcases List.mem_cons.mp q with rfl | q
    · exact hW _ _ (Nat.le_refl _) c w
    · exact ih (fun i c h1 h2 h3 => hW i c (by omega) h2 h3) z q
theorem led_total (hm : 1 ≤ m) (hL : L + 1 = W.length) (hP : ∀ a, P a = true → a + m ≤ L) : ∀ (k a : Nat), a + k = L → ∃ o, Led P m L W n a o := by
  intro k
  induction k using Nat.strongRecOn with
  | _ k ih =>
    intro a h
    rcases Nat.eq_zero_or_pos k with rfl | c
    · rw [show a = L from by omega]; exact ⟨[], .done⟩
    · cases hp : P a with
      | true =>
        have := hP a hp
        obtain ⟨o, ho⟩ := ih (L - (a + m)) (by omega) (a + m) (by omega)
        exact ⟨_, .hit (by omega) hp ho⟩
      | false =>
        obtain ⟨o, ho⟩ := ih (k - 1) (by omega) (a + 1) (by omega)
        have : a < W.length := by omega
        exact ⟨_, .miss (by omega) hp (List.getElem?_eq_getElem this) ho⟩
end Lm.Pl
set_option Elab.async false
set_option linter.all false
set_option maxRecDepth 100000
set_option maxHeartbeats 4000000
/-! k05: what the defs compute. -/
namespace Lm.Pl
open PySem
def standsB : List Q := [.ret (.and_ (.cmp .ge (.v 1) (.c (.int 0))) (.cmp .eq (.sl (.v 0) (.v 1) (.bin .add (.v 1) (.bi .len [.v 2]))) (.v 2)))]
theorem stands_ok {tab : Str → Option Fn} {wf n : Nat} {W p : List Nat} {a : Int} {g : List Cell} (h : tab "stands" = some ⟨3, 3, standsB⟩) (hW : W.length ≤ lim) (hp : p.length ≤ lim) :
    callD tab wf (n + 1) "stands" [.str W, .int a, .str p] g = .ok (.bl (decide (0 ≤ a) && cut W (some a) (some (a + p.length)) == p), false) ⟨[], g⟩ := by
  rw [call_eq h rfl]
  show finC (exs _ standsB ⟨[some (.str W, false), some (.int a, false), some (.str p, false)], g⟩) = _
  by_cases c : 0 ≤ a
  · simp [standsB, hW, hp, c]
  · simp [standsB, hW, hp, c]
/-- does it stand there -/
def hits (W b o h : List Nat) (a : Nat) : Bool := (seg W a o.length == o) && ((decide (b.length ≤ a) && seg W (a - b.length) b.length == b) && seg W (a + o.length) h.length == h)
theorem cut_seg (W : List Nat) (a k : Nat) : cut W (some (a : Int)) (some ((a : Int) + k)) = seg W a k := by
  have := cut_nat W a (a + k)
  rw [Int.natCast_add] at this
  exact this
theorem stands_nat {tab : Str → Option Fn} {wf n : Nat} {W p : List Nat} {a : Nat} {g : List Cell} (h : tab "stands" = some ⟨3, 3, standsB⟩) (hW : W.length ≤ lim) (hp : p.length ≤ lim) :
    callD tab wf (n + 1) "stands" [.str W, .int a, .str p] g = .ok (.bl (seg W a p.length == p), false) ⟨[], g⟩ := by
  rw [stands_ok h hW hp, cut_seg]
  simp
theorem stands_sub {tab : Str → Option Fn} {wf n : Nat} {W p : List Nat} {a : Nat} {g : List Cell} (h : tab "stands" = some ⟨3, 3, standsB⟩) (hW : W.length ≤ lim) (hp : p.length ≤ lim) :
    callD tab wf (n + 1) "stands" [.str W, .int ((a : Int) - p.length), .str p] g = .ok (.bl (decide (p.length ≤ a) && seg W (a - p.length) p.length == p), false) ⟨[], g⟩ := by
  rw [stands_ok h hW hp]
  by_cases c : p.length ≤ a
  · have e : (a : Int) - p.length = ((a - p.length : Nat) : Int) := by omega
    rw [e, cut_seg]
    simp [c]
  · have : ¬ (0 : Int) ≤ (a : Int) - p.length := by omega
    simp [c, this]
/-! ### led -/
def ledT : T := .cmp .lt (.v 4) (.bin .sub (.bi .len [.v 2]) (.c (.int 1)))
def ledS : List Q := [.if_ (.and_ (.call "stands" [.v 2, .v 4, .v 6]) (.and_ (.call "stands" [.v 2, .bin .sub (.v 4) (.bi .len [.v 5]), .v 5]) (.call "stands" [.v 2, .bin .add (.v 4) (.bi .len [.v 6]), .v 8]))) [.aug 3 .add (.v 7), .aug 4 .add (.bi .len [.v 6])] [.aug 3 .add (.ix (.v 2) (.v 4)), .aug 4 .add (.c (.int 1))]]
def ledB : List Q := [.asg (.tup [(.nm 5), (.nm 6), (.nm 7), (.nm 8)]) (.v 0), .asg (.nm 2) (.bin .add (.bin .add (.c (.str [35])) (.v 1)) (.c (.str [35]))), .asg (.nm 3) (.c (.str [])), .asg (.nm 4) (.c (.int 1)), .while_ (.cmp .lt (.v 4) (.bin .sub (.bi .len [.v 2]) (.c (.int 1)))) [.if_ (.and_ (.call "stands" [.v 2, .v 4, .v 6]) (.and_ (.call "stands" [.v 2, .bin .sub (.v 4) (.bi .len [.v 5]), .v 5]) (.call "stands" [.v 2, .bin .add (.v 4) (.bi .len [.v 6]), .v 8]))) [.aug 3 .add (.v 7), .aug 4 .add (.bi .len [.v 6])] [.aug 3 .add (.ix (.v 2) (.v 4)), .aug 4 .add (.c (.int 1))]], .ret (.v 3)]
def sd (b o n h : List Nat) : D := .tup [.str b, .str o, .str n, .str h]
def ledSt (b o n h t W f : List Nat) (a : Int) (g : List Cell) : S := ⟨[some (sd b o n h, false), some (.str t, false), some (.str W, false), some (.str f, false), some (.int a, false), some (.str b, false), some (.str o, false), some (.str n, false), some (.str h, false)], g⟩
structure Sz (b o n h W : List Nat) : Prop where
  zW : W.length ≤ 1002
  W1 : 1 ≤ W.length
  zb : b.length ≤ 2
  zo : o.length ≤ 2
  o1 : 1 ≤ o.length
  zn : n.length ≤ 2
  zh : h.length ≤ 2
theorem led_run {tab : Str → Option Fn} {wf nn : Nat} {b o n h t W : List Nat} {g : List Cell} (ht : tab "stands" = some ⟨3, 3, standsB⟩) (z : Sz b o n h W) {L : Nat} (hL : L + 1 = W.length) (hP : ∀ a, hits W b o h a = true → a + o.length ≤ L) :
    ∀ {a : Nat} {out : List Nat}, Led (hits W b o h) o.length L W n a out → ∀ (fuel : Nat) (f : List Nat), L - a < fuel → f.length + out.length ≤ 10000 →
      whLoop (fun s => (ev ⟨callD tab wf (nn + 1), wf⟩ ledT s).bind fun x s1 => R.of (asB x.1) s1) (fun s => exs ⟨callD tab wf (nn + 1), wf⟩ ledS s) fuel (ledSt b o n h t W f a g) = .ok .nx (ledSt b o n h t W (f ++ out) L g) := by
  have lW : W.length ≤ lim := by have := z.zW; unfold lim; omega
  have lb : b.length ≤ lim := by have := z.zb; unfold lim; omega
  have lo : o.length ≤ lim := by have := z.zo; unfold lim; omega
  have ln : n.length ≤ lim := by have := z.zn; unfold lim; omega
  have lh : h.length ≤ lim := by have := z.zh; unfold lim; omega
  have test : ∀ (f : List Nat) (a : Nat), (fun s => (ev ⟨callD tab wf (nn + 1), wf⟩ ledT s).bind fun x s1 => R.of (asB x.1) s1) (ledSt b o n h t W f a g) = .ok (decide (a < L)) (ledSt b o n h t W f a g) := by
    intro f a
    have e : decide ((a : Int) < (W.length : Int) - 1) = decide (a < L) := decide_eq_decide.mpr (by omega)
    simp [ledSt, ledT, lW, e]
  have body : ∀ (f : List Nat) (a : Nat), a < L → f.length + 2 ≤ lim → (fun s => exs ⟨callD tab wf (nn + 1), wf⟩ ledS s) (ledSt b o n h t W f a g) = .ok .nx (if hits W b o h a then ledSt b o n h t W (f ++ n) ((a + o.length : Nat) : Int) g else ledSt b o n h t W (f ++ [W.getD a 0]) ((a + 1 : Nat) : Int) g) := by
    intro f a ha hf
    have s1 := stands_nat (wf := wf) (n := nn) (a := a) (p := o) (g := g) ht lW lo
    have s2 := stands_sub (wf := wf) (n := nn) (a := a) (p := b) (g := g) ht lW lb
    have s3 := stands_nat (wf := wf) (n := nn) (a := a + o.length) (p := h) (g := g) ht lW lh
    rw [Int.natCast_add] at s3
    have hn := z.zn
    have haW : (a : Int) < W.length := by omega
    have haW2 : a < W.length := by omega
    have hu := ix_lt (n := W.length) (x := a) (by omega) haW
    unfold hits
    cases c1 : seg W a o.length == o with
    | false =>
      rw [c1] at s1
      simp [ledSt, ledS, s1, lW, lo, lb, lh, hu, show f.length + 1 ≤ lim from by omega, haW2]
    | true =>
      rw [c1] at s1
      cases c2 : (decide (b.length ≤ a) && seg W (a - b.length) b.length == b) with
      | false =>
        rw [c2] at s2
        simp [ledSt, ledS, s1, s2, lW, lo, lb, lh, hu, show f.length + 1 ≤ lim from by omega, haW2]
      | true =>
        rw [c2] at s2
        cases c3 : seg W (a + o.length) h.length == h with
        | false =>
          rw [c3] at s3
          simp [ledSt, ledS, s1, s2, s3, lW, lo, lb, lh, hu, show f.length + 1 ≤ lim from by omega, haW2]
        | true =>
          rw [c3] at s3
          simp [ledSt, ledS, s1, s2, s3, lW, lo, lb, lh, show f.length + n.length ≤ lim from by omega]
  intro a out H
  induction H with
  | done =>
    intro fuel f hf _
    cases fuel with
    | zero => omega
    | succ fuel =>
      show R.bind ((fun s => (ev ⟨callD tab wf (nn + 1), wf⟩ ledT s).bind fun x s1 => R.of (asB x.1) s1) _) _ = _
      rw [test, R.bind_ok]
      simp
  | hit c p r ih =>
    rename_i a out
    intro fuel f hf hl
    rw [List.length_append] at hl
    have q := hP _ p
    cases fuel with
    | zero => omega
    | succ fuel =>
      show R.bind ((fun s => (ev ⟨callD tab wf (nn + 1), wf⟩ ledT s).bind fun x s1 => R.of (asB x.1) s1) _) _ = _
      rw [test, R.bind_ok, if_pos (by simpa using c)]
      show R.bind ((fun s => exs ⟨callD tab wf (nn + 1), wf⟩ ledS s) _) _ = _
      rw [body f a c (by unfold lim; omega), R.bind_ok, if_pos p]
      show whLoop _ _ fuel _ = _
      have ho1 := z.o1
      rw [ih fuel (f ++ n) (by omega) (by rw [List.length_append]; omega), List.append_assoc]
  | miss c p w r ih =>
    rename_i a ch out
    intro fuel f hf hl
    rw [List.length_cons] at hl
    cases fuel with
    | zero => omega
    | succ fuel =>
      show R.bind ((fun s => (ev ⟨callD tab wf (nn + 1), wf⟩ ledT s).bind fun x s1 => R.of (asB x.1) s1) _) _ = _
      rw [test, R.bind_ok, if_pos (by simpa using c)]
      show R.bind ((fun s => exs ⟨callD tab wf (nn + 1), wf⟩ ledS s) _) _ = _
      rw [body f a c (by unfold lim; omega), R.bind_ok, if_neg (by rw [p]; exact Bool.false_ne_true)]
      show whLoop _ _ fuel _ = _
      have e : W.getD a 0 = ch := by rw [List.getD_eq_getElem?_getD, w]; rfl
      rw [e, ih fuel (f ++ [ch]) (by omega) (by rw [List.length_append]; simp; omega), List.append_assoc]
      rfl
theorem led_ok {tab : Str → Option Fn} {wf nn : Nat} {b o n h t out : List Nat} {g : List Cell} (ht : tab "stands" = some ⟨3, 3, standsB⟩) (hl : tab "led" = some ⟨9, 2, ledB⟩) (hw : 1100 ≤ wf) (z : Sz b o n h (35 :: t ++ [35])) (hP : ∀ a, hits (35 :: t ++ [35]) b o h a = true → a + o.length ≤ t.length + 1)
    (H : Led (hits (35 :: t ++ [35]) b o h) o.length (t.length + 1) (35 :: t ++ [35]) n 1 out) (hs : out.length ≤ 9000) : callD tab wf (nn + 2) "led" [sd b o n h, .str t] g = .ok (.str out, false) ⟨[], g⟩ := by
  rw [call_eq hl rfl]
  have hW := z.zW
  simp at hW
  have e := led_run (wf := wf) (nn := nn) (t := t) (g := g) ht z (L := t.length + 1) (by simp) hP H wf [] (by omega) (by simpa using (by omega : out.length ≤ 10000))
  have e2 : ex ⟨callD tab wf (nn + 1), wf⟩ (.while_ ledT ledS) (ledSt b o n h t (35 :: t ++ [35]) [] 1 g) = .ok .nx (ledSt b o n h t (35 :: t ++ [35]) out (t.length + 1 : Nat) g) := e
  unfold ledSt sd ledT ledS at e2
  show finC (exs _ ledB ⟨[some (sd b o n h, false), some (.str t, false), none, none, none, none, none, none, none], g⟩) = _
  have l1 : 1 + t.length ≤ lim := by unfold lim; omega
  have l2 : 1 + t.length + 1 ≤ lim := by unfold lim; omega
  simp [ledB, sd, l1, l2, show t.length + 1 + 1 ≤ lim from by omega, show t.length + 1 ≤ lim from by omega]
  simp at e2
  rw [e2]
  rfl
end Lm.Pl
set_option Elab.async false
set_option linter.all false
set_option maxRecDepth 100000
set_option maxHeartbeats 4000000
/-! k05: the law's own way. -/
namespace Lm.Pl
open PySem
theorem for_fold {α β : Type} {bindx : D → S → R Unit} {body : S → R Ctl} (emb : α → D) (step : β → α → β) (st : β → S → Prop) : ∀ (xs : List α) (b : β) (s : S), st b s → (∀ a ∈ xs, ∀ b s, st b s → ∃ s1 s2, bindx (emb a) s = .ok () s1 ∧ body s1 = .ok .nx s2 ∧ st (step b a) s2) → ∃ s', forLoop bindx body (xs.map emb) s = .ok .nx s' ∧ st (xs.foldl step b) s'
  | [], b, s, h, _ => ⟨s, rfl, h⟩
  | a :: xs, b, s, h, k => by
    obtain ⟨s1, s2, e1, e2, h2⟩ := k a List.mem_cons_self b s h
    obtain ⟨s', e3, h3⟩ := for_fold emb step st xs _ s2 h2 fun y hy => k y (List.mem_cons_of_mem _ hy)
    refine ⟨s', ?_, h3⟩
    show (bindx (emb a) s).bind _ = _
    rw [e1, R.bind_ok, e2, R.bind_ok]
    exact e3
theorem app_own {C : Ctx} {i : Nat} {e : T} {r r' : List (Option (D × Bool))} {g g' : List Cell} {xs : List D} {d : D} {o : Bool} (h : r[i]? = some (some (.lst xs, true))) (he : ev C e ⟨r, g⟩ = .ok (d, o) ⟨r', g'⟩) (h' : r'[i]? = some (some (.lst xs, true))) (hl : xs.length < lim) :
    ex C (.app i e) ⟨r, g⟩ = .ok .nx ⟨r'.set i (some (.lst (xs ++ [d]), true)), g'⟩ := by
  show (match getL i ⟨r, g⟩ with
      | none => R.bad
      | some _ => (ev C e ⟨r, g⟩).bind fun x s1 => match getL i s1 with
        | some xs => if xs.length < lim then R.ok Ctl.nx (putL i (xs ++ [x.1]) s1) else R.bad
        | none => R.bad) = _
  simp only [getL_mk, h, he, R.bind_ok, h', if_pos hl, putL_own h']
theorem eqv_nil {xs : List D} : eqv (.lst xs) (.lst []) = xs.isEmpty := by cases xs <;> rfl
theorem c_eql {xs : List D} (h : xs.all (plain 59) = true) : cmpD .eq (.lst xs) (.lst []) = some xs.isEmpty := by
  show (if scalD _ _ || (xs.all (plain 59) && [].all (plain 59)) then some (eqv (.lst xs) (.lst [])) else none) = _
  rw [h, eqv_nil]; simp
theorem c_nel {xs : List D} (h : xs.all (plain 59) = true) : cmpD .ne (.lst xs) (.lst []) = some (!xs.isEmpty) := by
  show (if scalD _ _ || (xs.all (plain 59) && [].all (plain 59)) then some (!eqv (.lst xs) (.lst [])) else none) = _
  rw [h, eqv_nil]; simp
theorem ints_plain {xs : List Nat} : (xs.map fun a : Nat => D.int a).all (plain 59) = true := by
  rw [List.all_map]
  exact List.all_eq_true.mpr fun _ _ => rfl
theorem ix_last {n : Nat} (h : 1 ≤ n) : ixOf n (-1) = some (n - 1) := by
  unfold ixOf
  rw [if_neg (by omega), if_pos (by omega)]
  congr 1
  omega
def llS : List Q := [.asg (.nm 9) (.and_ (.cmp .eq (.sl (.v 2) (.v 4) (.bin .add (.v 4) (.bi .len [.v 6]))) (.v 6)) (.cmp .eq (.sl (.v 2) (.bin .add (.v 4) (.bi .len [.v 6])) (.bin .add (.bin .add (.v 4) (.bi .len [.v 6])) (.bi .len [.v 8]))) (.v 8))), .if_ (.and_ (.v 9) (.and_ (.cmp .ge (.v 4) (.bi .len [.v 5])) (.cmp .eq (.sl (.v 2) (.bin .sub (.v 4) (.bi .len [.v 5])) (.v 4)) (.v 5)))) [.if_ (.or_ (.cmp .eq (.v 3) (.lst [])) (.cmp .le (.bin .add (.ix (.v 3) (.neg (.c (.int 1)))) (.bi .len [.v 6])) (.v 4))) [.app 3 (.v 4)] []] []]
def llR : List Q := [.asg (.nm 2) (.bin .add (.bin .add (.sl (.v 2) .none_ (.v 4)) (.v 7)) (.sl (.v 2) (.bin .add (.v 4) (.bi .len [.v 6])) .none_))]
def lawledB : List Q := [.asg (.tup [(.nm 5), (.nm 6), (.nm 7), (.nm 8)]) (.v 0), .asg (.nm 2) (.bin .add (.bin .add (.c (.str [35])) (.v 1)) (.c (.str [35]))), .asg (.nm 3) (.lst []), .for_ (.nm 4) .rng2 [.c (.int 1), .bin .sub (.bi .len [.v 2]) (.bi .len [.v 6])] [.asg (.nm 9) (.and_ (.cmp .eq (.sl (.v 2) (.v 4) (.bin .add (.v 4) (.bi .len [.v 6]))) (.v 6)) (.cmp .eq (.sl (.v 2) (.bin .add (.v 4) (.bi .len [.v 6])) (.bin .add (.bin .add (.v 4) (.bi .len [.v 6])) (.bi .len [.v 8]))) (.v 8))), .if_ (.and_ (.v 9) (.and_ (.cmp .ge (.v 4) (.bi .len [.v 5])) (.cmp .eq (.sl (.v 2) (.bin .sub (.v 4) (.bi .len [.v 5])) (.v 4)) (.v 5)))) [.if_ (.or_ (.cmp .eq (.v 3) (.lst [])) (.cmp .le (.bin .add (.ix (.v 3) (.neg (.c (.int 1)))) (.bi .len [.v 6])) (.v 4))) [.app 3 (.v 4)] []] []], .for_ (.nm 4) .val [.rev (.v 3)] [.asg (.nm 2) (.bin .add (.bin .add (.sl (.v 2) .none_ (.v 4)) (.v 7)) (.sl (.v 2) (.bin .add (.v 4) (.bi .len [.v 6])) .none_))], .ret (.sl (.v 2) (.c (.int 1)) (.bin .sub (.bi .len [.v 2]) (.c (.int 1))))]
def llSt (b o n h t W : List Nat) (p q4 q9 : Option (D × Bool)) (g : List Cell) : S := ⟨[some (sd b o n h, false), some (.str t, false), some (.str W, false), p, q4, some (.str b, false), some (.str o, false), some (.str n, false), some (.str h, false), q9], g⟩
section
variable {C : Ctx} {b o n h t W : List Nat} {g : List Cell}
theorem cut_segi (W : List Nat) (a k l : Nat) : cut W (some ((a : Int) + k)) (some ((a : Int) + k + l)) = seg W (a + k) l := by
  have := cut_seg W (a + k) l
  rw [Int.natCast_add] at this
  exact this
theorem cut_segb (W : List Nat) (a k : Nat) (h : k ≤ a) : cut W (some ((a : Int) - k)) (some (a : Int)) = seg W (a - k) k := by
  have := cut_seg W (a - k) k
  rw [show ((a - k : Nat) : Int) = (a : Int) - k from by omega, show (a : Int) - k + k = a from by omega] at this
  exact this
theorem ll_step (z : Sz b o n h W) {pl : List Nat} (hpl : pl.length ≤ 5000) {q9 : Option (D × Bool)} (a : Nat) : ∃ q9', exs C llS (llSt b o n h t W (some (.lst (pl.map fun a : Nat => D.int a), true)) (some (.int a, false)) q9 g) = .ok .nx (llSt b o n h t W (some (.lst ((stepP (hits W b o h) o.length pl a).map fun a : Nat => D.int a), true)) (some (.int a, false)) q9' g) := by
  have lW : W.length ≤ lim := by have := z.zW; unfold lim; omega
  have lb : b.length ≤ lim := by have := z.zb; unfold lim; omega
  have lo : o.length ≤ lim := by have := z.zo; unfold lim; omega
  have lh : h.length ≤ lim := by have := z.zh; unfold lim; omega
  have hint : pl.length < lim := by unfold lim; omega
  have ap := app_own (C := C) (i := 3) (e := .v 4) (r := (llSt b o n h t W (some (.lst (pl.map fun a : Nat => D.int a), true)) (some (.int a, false)) (some (.bl true, false)) g).r) (g := g) (xs := pl.map fun a : Nat => D.int a) (d := .int a) (o := false) (r' := (llSt b o n h t W (some (.lst (pl.map fun a : Nat => D.int a), true)) (some (.int a, false)) (some (.bl true, false)) g).r) (g' := g) rfl rfl rfl (by simpa using hint)
  unfold llSt at ap
  have ceq := c_eql (xs := pl.map fun a : Nat => D.int a) ints_plain
  cases c1 : seg W a o.length == o with
  | false =>
    refine ⟨some (.bl false, false), ?_⟩
    have : stepP (hits W b o h) o.length pl a = pl := by unfold stepP hits; rw [c1]; rfl
    rw [this]
    simp [llSt, llS, lW, lo, lb, lh, cut_seg, c1]
  | true =>
    cases c3 : seg W (a + o.length) h.length == h with
    | false =>
      refine ⟨some (.bl false, false), ?_⟩
      have : stepP (hits W b o h) o.length pl a = pl := by unfold stepP hits; rw [c1, c3]; simp
      rw [this]
      simp [llSt, llS, lW, lo, lb, lh, cut_seg, cut_segi, c1, c3]
    | true =>
      refine ⟨some (.bl true, false), ?_⟩
      by_cases c2 : b.length ≤ a
      · cases c4 : seg W (a - b.length) b.length == b with
        | false =>
          have : stepP (hits W b o h) o.length pl a = pl := by unfold stepP hits; rw [c1, c3, c4]; simp
          rw [this]
          simp [llSt, llS, lW, lo, lb, lh, cut_seg, cut_segi, cut_segb, c1, c2, c3, c4]
        | true =>
          cases g1 : pl.getLast? with
          | none =>
            have e0 : pl = [] := List.getLast?_eq_none_iff.mp g1
            subst e0
            have : stepP (hits W b o h) o.length [] a = [a] := by unfold stepP hits; rw [c1, c3, c4]; simp [c2]
            rw [this]
            have ceq : cmpD .eq (.lst []) (.lst []) = some true := rfl
            simp at ap
            simp [llSt, llS, lW, lo, lb, lh, cut_seg, cut_segi, cut_segb, c1, c2, c3, c4, ceq, ap]
          | some y =>
            have hne : pl ≠ [] := fun e => by rw [e] at g1; cases g1
            have hlen : 1 ≤ pl.length := List.length_pos_iff.mpr hne
            have hget : pl[pl.length - 1]? = some y := by rw [← List.getLast?_eq_getElem?]; exact g1
            have hix := ix_last (n := pl.length) hlen
            have hemp : pl.isEmpty = false := by cases pl with | nil => exact absurd rfl hne | cons _ _ => rfl
            rw [List.isEmpty_map, hemp] at ceq
            by_cases c5 : y + o.length ≤ a
            · have : stepP (hits W b o h) o.length pl a = pl ++ [a] := by unfold stepP hits; rw [c1, c3, c4, g1]; simp [c2, c5]
              rw [this]
              have c6 : (y : Int) + o.length ≤ a := by omega
              simp [llSt, llS, lW, lo, lb, lh, cut_seg, cut_segi, cut_segb, c1, c2, c3, c4, ceq, hix, hget, c6, ap]
            · have : stepP (hits W b o h) o.length pl a = pl := by unfold stepP hits; rw [c1, c3, c4, g1]; simp [c2, c5]
              rw [this]
              have c6 : ¬ (y : Int) + o.length ≤ a := by omega
              simp [llSt, llS, lW, lo, lb, lh, cut_seg, cut_segi, cut_segb, c1, c2, c3, c4, ceq, hix, hget, c6]
      · have : stepP (hits W b o h) o.length pl a = pl := by unfold stepP hits; rw [c1, c3]; simp [c2]
        rw [this]
        simp [llSt, llS, lW, lo, lb, lh, cut_seg, cut_segi, c1, c2, c3]
theorem rep_step (hW : W.length ≤ 20000) (hn : n.length ≤ 2) (ho : o.length ≤ 2) {p q9 : Option (D × Bool)} (a : Nat) : exs C llR (llSt b o n h t W p (some (.int a, false)) q9 g) = .ok .nx (llSt b o n h t (W.take a ++ n ++ W.drop (a + o.length)) p (some (.int a, false)) q9 g) := by
  have lW : W.length ≤ lim := by unfold lim; omega
  have lo : o.length ≤ lim := by unfold lim; omega
  have f1 : cut W (some ((a : Int) + o.length)) none = W.drop (a + o.length) := by
    have := cut_from W (a + o.length)
    rw [Int.natCast_add] at this
    exact this
  have l1 : (W.take a).length + n.length ≤ lim := by rw [List.length_take]; unfold lim; omega
  have l2 : (W.take a).length + n.length + (W.drop (a + o.length)).length ≤ lim := by rw [List.length_take, List.length_drop]; unfold lim; omega
  simp at l1 l2
  simp [llSt, llR, lW, lo, cut_to, f1, l1, l2]
end
end Lm.Pl
set_option Elab.async false
set_option linter.all false
set_option maxRecDepth 100000
set_option maxHeartbeats 4000000
/-! k05: both ways give the same. -/
namespace Lm.Pl
open PySem
theorem no35 {o W : List Nat} {L a : Nat} (ho : ∀ z ∈ o, z ≠ 35) (h1 : 1 ≤ o.length) (hL : L + 1 = W.length) (h35 : W[L]? = some 35) (e : seg W a o.length = o) : a + o.length ≤ L := by
  have hl : (seg W a o.length).length = o.length := by rw [e]
  unfold seg at hl
  rw [List.length_drop, List.length_take] at hl
  rcases Nat.lt_or_ge L (a + o.length) with c | c
  · exfalso
    have : o[L - a]? = some 35 := by
      rw [← e]
      unfold seg
      rw [List.getElem?_drop, List.getElem?_take, if_pos (by omega), show a + (L - a) = L from by omega]
      exact h35
    exact ho 35 (List.mem_of_getElem? this) rfl
  · exact c
theorem for_foldi {α β : Type} {bindx : D → S → R Unit} {body : S → R Ctl} (N : Nat) (emb : α → D) (step : β → α → β) (st : Nat → β → S → Prop) : ∀ (xs : List α) (k : Nat) (b : β) (s : S), k + xs.length ≤ N → st k b s → (∀ a ∈ xs, ∀ k b s, k < N → st k b s → ∃ s1 s2, bindx (emb a) s = .ok () s1 ∧ body s1 = .ok .nx s2 ∧ st (k + 1) (step b a) s2) → ∃ s', forLoop bindx body (xs.map emb) s = .ok .nx s' ∧ st (k + xs.length) (xs.foldl step b) s'
  | [], k, b, s, _, h, _ => ⟨s, rfl, h⟩
  | a :: xs, k, b, s, hl, h, f => by
    rw [List.length_cons] at hl
    obtain ⟨s1, s2, e1, e2, h2⟩ := f a List.mem_cons_self k b s (by omega) h
    obtain ⟨s', e3, h3⟩ := for_foldi N emb step st xs (k + 1) _ s2 (by omega) h2 fun y hy => f y (List.mem_cons_of_mem _ hy)
    refine ⟨s', ?_, ?_⟩
    · show (bindx (emb a) s).bind _ = _
      rw [e1, R.bind_ok, e2, R.bind_ok]
      exact e3
    · rw [List.length_cons, show k + (xs.length + 1) = k + 1 + xs.length from by omega]
      exact h3
theorem ints_map (x : Nat) : rangeD 1 (x : Int) = (List.range' 1 (x - 1)).map fun a : Nat => D.int a := by
  unfold rangeD
  rw [List.range'_eq_map_range, List.map_map, show ((x : Int) - 1).toNat = x - 1 from by omega]
  refine List.map_congr_left fun k _ => ?_
  show D.int (1 + (k : Int)) = D.int ((1 + k : Nat) : Int)
  rw [Int.natCast_add]; rfl
theorem stepP_len {P : Nat → Bool} {m a : Nat} {pl : List Nat} : (stepP P m pl a).length ≤ pl.length + 1 := by
  unfold stepP
  generalize (P a && _) = c
  cases c <;> simp
theorem lawled_ok {tab : Str → Option Fn} {wf nn : Nat} {b o n h t out : List Nat} {g : List Cell} (hl : tab "_law_led" = some ⟨10, 2, lawledB⟩) (z : Sz b o n h (35 :: t ++ [35])) (hP : ∀ a, hits (35 :: t ++ [35]) b o h a = true → a + o.length ≤ t.length + 1)
    (H : Led (hits (35 :: t ++ [35]) b o h) o.length (t.length + 1) (35 :: t ++ [35]) n 1 out) (hs : out.length ≤ 9000) : callD tab wf (nn + 1) "_law_led" [sd b o n h, .str t] g = .ok (.str out, false) ⟨[], g⟩ := by
  rw [call_eq hl rfl]
  have hW := z.zW
  simp only [List.length_append, List.length_cons, List.length_nil] at hW
  have ho1 := z.o1
  have ho2 := z.zo
  have hn2 := z.zn
  have hlen : (35 :: t ++ [35]).length = t.length + 2 := by simp
  obtain ⟨l, gl, fl⟩ : ∃ l, Greedy (hits (35 :: t ++ [35]) b o h) o.length (t.length + 2 - o.length) 1 l ∧ (List.range' 1 (t.length + 2 - o.length - 1)).foldl (stepP (hits (35 :: t ++ [35]) b o h) o.length) [] = l := by
    by_cases hc : o.length ≤ t.length + 1
    · obtain ⟨l, gl, fl⟩ := fold_greedy (P := hits (35 :: t ++ [35]) b o h) (E := t.length + 2 - o.length) ho1 (t.length + 2 - o.length - 1) 1 [] (by omega)
      rw [show max 1 (nextP o.length []) = 1 from rfl] at gl
      rw [List.nil_append] at fl
      exact ⟨l, gl, fl⟩
    · rw [show t.length + 2 - o.length = 0 from by omega]
      exact ⟨[], .done (by omega), rfl⟩
  have rl := rep_led ho1 (by rw [hlen]; omega) (by rw [hlen]) hP H gl
  obtain ⟨s1, e1, q4, q9, rfl, hs1⟩ := for_foldi (bindx := fun d s => bindT (.nm 4) d false s) (body := fun s => exs ⟨callD tab wf nn, wf⟩ llS s) 1002 (fun a : Nat => D.int a) (stepP (hits (35 :: t ++ [35]) b o h) o.length)
    (fun k pl s => ∃ q4 q9, s = llSt b o n h t (35 :: t ++ [35]) (some (.lst (pl.map fun a : Nat => D.int a), true)) q4 q9 g ∧ pl.length ≤ k) (List.range' 1 (t.length + 2 - o.length - 1)) 0 [] (llSt b o n h t (35 :: t ++ [35]) (some (.lst [], true)) none none g) (by rw [List.length_range']; omega) ⟨none, none, rfl, by simp⟩ (by
      rintro a ha k pl s hk ⟨q4, q9, rfl, hpl⟩
      obtain ⟨q9', e⟩ := ll_step (C := ⟨callD tab wf nn, wf⟩) (t := t) (g := g) z (pl := pl) (by omega) (q9 := q9) a
      refine ⟨llSt b o n h t (35 :: t ++ [35]) (some (.lst (pl.map fun a : Nat => D.int a), true)) (some (.int a, false)) q9 g, _, rfl, e, _, _, rfl, ?_⟩
      have := stepP_len (P := hits (35 :: t ++ [35]) b o h) (m := o.length) (pl := pl) (a := a)
      omega)
  rw [fl] at e1 hs1
  rw [List.length_range'] at hs1
  obtain ⟨s2, e2, q4', rfl, hs2⟩ := for_foldi (bindx := fun d s => bindT (.nm 4) d false s) (body := fun s => exs ⟨callD tab wf nn, wf⟩ llR s) 1002 (fun a : Nat => D.int a) (fun W a => W.take a ++ n ++ W.drop (a + o.length))
    (fun k W s => ∃ q4, s = llSt b o n h t W (some (.lst (l.map fun a : Nat => D.int a), false)) q4 q9 g ∧ W.length ≤ 1002 + 2 * k) l.reverse 0 (35 :: t ++ [35]) (llSt b o n h t (35 :: t ++ [35]) (some (.lst (l.map fun a : Nat => D.int a), false)) q4 q9 g) (by rw [List.length_reverse]; omega) ⟨q4, rfl, by rw [hlen]; omega⟩ (by
      rintro a ha k W s hk ⟨q4, rfl, hW2⟩
      refine ⟨llSt b o n h t W (some (.lst (l.map fun a : Nat => D.int a), false)) (some (.int a, false)) q9 g, _, rfl, rep_step (by omega) hn2 ho2 a, _, rfl, ?_⟩
      simp only [List.length_append, List.length_take, List.length_drop]
      omega)
  rw [List.length_reverse] at hs2
  have er : l.reverse.foldl (fun W a => W.take a ++ n ++ W.drop (a + o.length)) (35 :: t ++ [35]) = (35 :: t ++ [35]).take 1 ++ out ++ (35 :: t ++ [35]).drop (t.length + 1) := by
    rw [List.foldl_reverse]
    exact rl
  have tk : (35 :: t ++ [35]).take 1 = [35] := rfl
  have dr : (35 :: t ++ [35]).drop (t.length + 1) = [35] := by simp
  rw [er, tk, dr] at e2 hs2
  have l1 : 1 + t.length ≤ lim := by unfold lim; omega
  have l2 : t.length + 1 + 1 ≤ lim := by unfold lim; omega
  have l3 : out.length + 1 + 1 ≤ lim := by unfold lim; omega
  have lo : o.length ≤ lim := by unfold lim; omega
  have f1 := for_run (C := ⟨callD tab wf nn, wf⟩) (tg := .nm 4) (body := llS) (sk := .rng2) (sa := [.c (.int 1), .bin .sub (.bi .len [.v 2]) (.bi .len [.v 6])]) (s := llSt b o n h t (35 :: t ++ [35]) (some (.lst [], true)) none none g) (s1 := llSt b o n h t (35 :: t ++ [35]) (some (.lst [], true)) none none g) (ds := [.int 1, .int ((t.length + 2 - o.length : Nat) : Int)]) (xs := (List.range' 1 (t.length + 2 - o.length - 1)).map fun a : Nat => D.int a) (by
      have : ((t.length : Int) + 1 + 1 - o.length) = ((t.length + 2 - o.length : Nat) : Int) := by omega
      simp [llSt, l2, lo, this]) (by
      rw [src_r2, if_pos (by omega), ints_map]) e1
  have f2 := for_run (C := ⟨callD tab wf nn, wf⟩) (tg := .nm 4) (body := llR) (sk := .val) (sa := [.rev (.v 3)]) (s := llSt b o n h t (35 :: t ++ [35]) (some (.lst (l.map fun a : Nat => D.int a), true)) q4 q9 g) (s1 := llSt b o n h t (35 :: t ++ [35]) (some (.lst (l.map fun a : Nat => D.int a), false)) q4 q9 g) (ds := [.lst (l.reverse.map fun a : Nat => D.int a)]) (xs := l.reverse.map fun a : Nat => D.int a) (by
      simp [llSt]) rfl e2
  have cutE : cut ([35] ++ out ++ [35]) (some 1) (some ((out.length : Int) + 1)) = out := by
    have := cut_nat ([35] ++ out ++ [35]) 1 (out.length + 1)
    rw [Int.natCast_add] at this
    refine Eq.trans this ?_
    rw [List.take_append_of_le_length (by simp), List.take_of_length_le (by simp)]
    rfl
  have hsplit : lawledB = [.asg (.tup [(.nm 5), (.nm 6), (.nm 7), (.nm 8)]) (.v 0), .asg (.nm 2) (.bin .add (.bin .add (.c (.str [35])) (.v 1)) (.c (.str [35]))), .asg (.nm 3) (.lst []), .for_ (.nm 4) .rng2 [.c (.int 1), .bin .sub (.bi .len [.v 2]) (.bi .len [.v 6])] llS, .for_ (.nm 4) .val [.rev (.v 3)] llR, .ret (.sl (.v 2) (.c (.int 1)) (.bin .sub (.bi .len [.v 2]) (.c (.int 1))))] := rfl
  unfold llSt sd at f1 f2
  show finC (exs _ lawledB ⟨[some (sd b o n h, false), some (.str t, false), none, none, none, none, none, none, none, none], g⟩) = _
  rw [hsplit]
  simp at f1 f2 cutE
  simp [sd, l1, l2, f1, f2, l3, cutE]
end Lm.Pl
set_option Elab.async false
set_option linter.all false
set_option maxRecDepth 100000
set_option maxHeartbeats 4000000
/-! k05: sounds, texts, and the law. -/
namespace Lm.Pl
open PySem
def befs : List (List Nat) := [[], [], [97], [98], [35], [35, 97], [97, 98]]
def behs : List (List Nat) := [[], [], [97], [98], [35], [98, 35], [98, 97]]
def abc : List Nat := [97, 98, 99]
def GoodS (d : D) : Prop := ∃ b o n h, d = sd b o n h ∧ b ∈ befs ∧ h ∈ behs ∧ (1 ≤ o.length ∧ o.length ≤ 2) ∧ (1 ≤ n.length ∧ n.length ≤ 2) ∧ (∀ z ∈ o, z ∈ abc) ∧ ∀ z ∈ n, z ∈ abc
theorem bef_len {b : List Nat} (h : b ∈ befs) : b.length ≤ 2 := by
  revert b h; decide
theorem beh_len {b : List Nat} (h : b ∈ behs) : b.length ≤ 2 := by
  revert b h; decide
theorem abc35 {z : Nat} (h : z ∈ abc) : z ≠ 35 := by
  revert z h; decide
def throughB : List Q := [.for_ (.nm 2) .val [.v 0] [.asg (.nm 1) (.call "led" [.v 2, .v 1])], .ret (.v 1)]
def lthroughB : List Q := [.for_ (.nm 2) .val [.v 0] [.asg (.nm 1) (.call "_law_led" [.v 2, .v 1])], .ret (.v 1)]
structure Tab (tab : Str → Option Fn) : Prop where
  st : tab "stands" = some ⟨3, 3, standsB⟩
  ld : tab "led" = some ⟨9, 2, ledB⟩
  ll : tab "_law_led" = some ⟨10, 2, lawledB⟩
  th : tab "through" = some ⟨3, 2, throughB⟩
  lt : tab "_law_through" = some ⟨3, 2, lthroughB⟩
theorem both_led {tab : Str → Option Fn} {wf : Nat} {d : D} {t : List Nat} (T : Tab tab) (hw : 1100 ≤ wf) (hd : GoodS d) (ht : ∀ z ∈ t, z ∈ abc) (h1 : t.length ≤ 1000) : ∃ out : List Nat, out.length ≤ 2 * t.length ∧ (∀ z ∈ out, z ∈ abc) ∧
    (∀ nn g, callD tab wf (nn + 2) "led" [d, .str t] g = .ok (.str out, false) ⟨[], g⟩) ∧ ∀ nn g, callD tab wf (nn + 1) "_law_led" [d, .str t] g = .ok (.str out, false) ⟨[], g⟩ := by
  obtain ⟨b, o, n, h, rfl, hb, hh, ⟨o1, o2⟩, ⟨n1, n2⟩, ho, hn⟩ := hd
  have z : Sz b o n h (35 :: t ++ [35]) := ⟨by simp; omega, by simp, bef_len hb, o2, o1, n2, beh_len hh⟩
  have hL : t.length + 1 + 1 = (35 :: t ++ [35]).length := by simp
  have hP : ∀ a, hits (35 :: t ++ [35]) b o h a = true → a + o.length ≤ t.length + 1 := fun a e => by
    unfold hits at e
    rw [Bool.and_eq_true] at e
    exact no35 (fun z hz => abc35 (ho z hz)) o1 hL (by simp) (eq_of_beq e.1)
  obtain ⟨out, H⟩ := led_total (P := hits (35 :: t ++ [35]) b o h) (W := 35 :: t ++ [35]) (n := n) o1 hL hP t.length 1 (by omega)
  have hl := led_len o1 n2 H
  have hl : out.length ≤ 2 * t.length := by omega
  refine ⟨out, hl, ?_, fun nn g => led_ok T.st T.ld hw z hP H (by omega), fun nn g => lawled_ok T.ll z hP H (by omega)⟩
  refine led_mem (Z := (· ∈ abc)) hn (fun i c h1 h2 e => ?_) H
  obtain ⟨j, rfl⟩ : ∃ j, i = j + 1 := ⟨i - 1, by omega⟩
  rw [List.cons_append, List.getElem?_cons_succ, List.getElem?_append_left (by omega)] at e
  exact ht c (List.mem_of_getElem? e)
theorem for_step {bindx : D → S → R Unit} {body : S → R Ctl} {x : D} {xs : List D} {s s1 s2 : S} (e1 : bindx x s = .ok () s1) (e2 : body s1 = .ok .nx s2) : forLoop bindx body (x :: xs) s = forLoop bindx body xs s2 := by
  show (bindx x s).bind _ = _
  rw [e1, R.bind_ok, e2, R.bind_ok]
theorem thru {tab : Str → Option Fn} {wf : Nat} (T : Tab tab) (hw : 1100 ≤ wf) : ∀ (ss : List D) (t : List Nat), (∀ d ∈ ss, GoodS d) → (∀ z ∈ t, z ∈ abc) → t.length * 2 ^ ss.length ≤ 1000 → ∃ t' : List Nat, ∀ (nn : Nat) (X : D) (g : List Cell) (q q2 : Option (D × Bool)), ∃ (q' q2' : Option (D × Bool)),
    forLoop (fun d s => bindT (.nm 2) d false s) (fun s => exs ⟨callD tab wf (nn + 2), wf⟩ [.asg (.nm 1) (.call "led" [.v 2, .v 1])] s) ss ⟨[some (X, false), some (.str t, false), q], g⟩ = .ok .nx ⟨[some (X, false), some (.str t', false), q'], g⟩ ∧
    forLoop (fun d s => bindT (.nm 2) d false s) (fun s => exs ⟨callD tab wf (nn + 2), wf⟩ [.asg (.nm 1) (.call "_law_led" [.v 2, .v 1])] s) ss ⟨[some (X, false), some (.str t, false), q2], g⟩ = .ok .nx ⟨[some (X, false), some (.str t', false), q2'], g⟩
  | [], t, _, _, _ => ⟨t, fun nn X g q q2 => ⟨q, q2, rfl, rfl⟩⟩
  | d :: ss, t, hs, ht, hl => by
    rw [List.length_cons, Nat.pow_succ] at hl
    have h2 : 1 ≤ 2 ^ ss.length := Nat.one_le_two_pow
    have hl0 : t.length * 2 * 2 ^ ss.length ≤ 1000 := by
      rw [Nat.mul_assoc, Nat.mul_comm 2]; exact hl
    have hl1 : t.length * 2 ≤ 1000 := Nat.le_trans (Nat.le_mul_of_pos_right _ h2) hl0
    obtain ⟨out, e1, e2, e3, e4⟩ := both_led (wf := wf) T hw (hs d List.mem_cons_self) ht (by omega)
    obtain ⟨t', F⟩ := thru T hw ss out (fun x hx => hs x (List.mem_cons_of_mem _ hx)) e2 (Nat.le_trans (Nat.mul_le_mul_right _ (by omega)) hl0)
    refine ⟨t', fun nn X g q q2 => ?_⟩
    obtain ⟨q', q2', f1, f2⟩ := F nn X g (some (d, false)) (some (d, false))
    refine ⟨q', q2', ?_, ?_⟩
    · exact (for_step rfl (show exs ⟨callD tab wf (nn + 2), wf⟩ [.asg (.nm 1) (.call "led" [.v 2, .v 1])] (wr 2 (d, false) ⟨[some (X, false), some (.str t, false), q], g⟩) = .ok .nx ⟨[some (X, false), some (.str out, false), some (d, false)], g⟩ from by simp [e3])).trans f1
    · exact (for_step rfl (show exs ⟨callD tab wf (nn + 2), wf⟩ [.asg (.nm 1) (.call "_law_led" [.v 2, .v 1])] (wr 2 (d, false) ⟨[some (X, false), some (.str t, false), q2], g⟩) = .ok .nx ⟨[some (X, false), some (.str out, false), some (d, false)], g⟩ from by simp [e4 (nn + 1)])).trans f2
theorem through_ok {tab : Str → Option Fn} {wf : Nat} {ss : List D} {t : List Nat} (T : Tab tab) (hw : 1100 ≤ wf) (hs : ∀ d ∈ ss, GoodS d) (ht : ∀ z ∈ t, z ∈ abc) (hl : t.length * 2 ^ ss.length ≤ 1000) :
    ∃ t', ∀ nn g, callD tab wf (nn + 3) "through" [.tup ss, .str t] g = .ok (.str t', false) ⟨[], g⟩ ∧ callD tab wf (nn + 3) "_law_through" [.tup ss, .str t] g = .ok (.str t', false) ⟨[], g⟩ := by
  obtain ⟨t', F⟩ := thru T hw ss t hs ht hl
  refine ⟨t', fun nn g => ?_⟩
  obtain ⟨q', q2', f1, f2⟩ := F nn (.tup ss) g none none
  constructor
  · rw [call_eq T.th rfl]
    have e := for_run (C := ⟨callD tab wf (nn + 2), wf⟩) (sk := .val) (sa := [.v 0]) (s := ⟨[some (.tup ss, false), some (.str t, false), none], g⟩) rfl src_tup f1
    show finC (exs _ throughB ⟨[some (.tup ss, false), some (.str t, false), none], g⟩) = _
    simp [throughB, e]
  · rw [call_eq T.lt rfl]
    have e := for_run (C := ⟨callD tab wf (nn + 2), wf⟩) (sk := .val) (sa := [.v 0]) (s := ⟨[some (.tup ss, false), some (.str t, false), none], g⟩) rfl src_tup f2
    show finC (exs _ lthroughB ⟨[some (.tup ss, false), some (.str t, false), none], g⟩) = _
    simp [lthroughB, e]
/-! ### what is taken -/
def letters : List Nat := [97, 98, 99, 100, 101, 102, 103, 104, 105, 106, 107, 108, 109, 110, 111, 112, 113, 114, 115, 116, 117, 118, 119, 120, 121, 122]
def isrunB : List Q := [.ret (.and_ (.isi (.v 0) .str) (.and_ (.chain .le .le (.v 1) (.bi .len [.v 0]) (.v 2)) (.bi .all [.lc [3] (.nm 3) .val [.v 0] none (.cmp .inn (.v 3) (.c (.str [97, 98, 99, 100, 101, 102, 103, 104, 105, 106, 107, 108, 109, 110, 111, 112, 113, 114, 115, 116, 117, 118, 119, 120, 121, 122])))])))]
def inLet : D → D
  | .str [z] => .bl (decide (z ∈ letters))
  | d => d
theorem isrun_ok {tab : Str → Option Fn} {wf nn : Nat} {g : List Cell} {t : List Nat} {lo hi : Int} (h : tab "is_run" = some ⟨4, 3, isrunB⟩) (h1 : lo ≤ t.length) (h2 : (t.length : Int) ≤ hi) (h3 : t.length ≤ lim) (hz : ∀ z ∈ t, z ∈ letters) : callD tab wf (nn + 1) "is_run" [.str t, .int lo, .int hi] g = .ok (.bl true, false) ⟨[], g⟩ := by
  rw [call_eq h rfl]
  have e1 := lc_map (own := [3]) (bindx := fun d s => bindT (.nm 3) d false s) (cond := evc ⟨callD tab wf nn, wf⟩ none) (elt := fun s => ev ⟨callD tab wf nn, wf⟩ (.cmp .inn (.v 3) (.c (.str [97, 98, 99, 100, 101, 102, 103, 104, 105, 106, 107, 108, 109, 110, 111, 112, 113, 114, 115, 116, 117, 118, 119, 120, 121, 122]))) s)
    (s := ⟨[some (.str t, false), some (.int lo, false), some (.int hi, false), none], g⟩) inLet (t.map fun c => .str [c]) (by simpa using h3) (by
      intro x hx
      obtain ⟨c, _, rfl⟩ := List.mem_map.mp hx
      exact ⟨⟨[some (.str t, false), some (.int lo, false), some (.int hi, false), some (.str [c], false)], g⟩, _, false, ⟨[some (.str t, false), some (.int lo, false), some (.int hi, false), some (.str [c], false)], g⟩, rfl, rfl, rfl, by rfl, rfl⟩)
  have e2 := lc_run (C := ⟨callD tab wf nn, wf⟩) (sk := .val) (sa := [.v 0]) (s := ⟨[some (.str t, false), some (.int lo, false), some (.int hi, false), none], g⟩) (s1 := ⟨[some (.str t, false), some (.int lo, false), some (.int hi, false), none], g⟩) (ds := [.str t]) rfl src_str rfl e1
  have e3 : boolsD (((t.map fun c => D.str [c])).map inLet) = some (t.map fun c => decide (c ∈ letters)) := by
    rw [List.map_map]
    exact bools_map _ _ t fun _ _ => rfl
  have e4 : (t.map fun c => decide (c ∈ letters)).all id = true := by
    rw [List.all_map]
    exact List.all_eq_true.mpr fun z q => decide_eq_true (hz z q)
  show finC (exs _ isrunB ⟨[some (.str t, false), some (.int lo, false), some (.int hi, false), none], g⟩) = _
  simp only [List.map_map] at e2 e3
  simp [isrunB, h1, h2, h3, e2, e3, backS, backR]
  exact fun z q => hz z q
def issideB : List Q := [.if_ (.or_ (.not_ (.isi (.v 0) .str)) (.cmp .gt (.bi .len [.v 0]) (.c (.int 2)))) [.ret (.c (.bl false))] [], .for_ (.tup [(.nm 2), (.nm 3)]) .enum [.v 0] [.if_ (.and_ (.cmp .nin (.v 3) (.c (.str [97, 98, 99, 100, 101, 102, 103, 104, 105, 106, 107, 108, 109, 110, 111, 112, 113, 114, 115, 116, 117, 118, 119, 120, 121, 122]))) (.or_ (.cmp .ne (.v 3) (.c (.str [35]))) (.cmp .ne (.v 2) (.ife (.cmp .eq (.v 1) (.c (.int 0))) (.c (.int 0)) (.bin .sub (.bi .len [.v 0]) (.c (.int 1))))))) [.ret (.c (.bl false))] []], .ret (.c (.bl true))]
theorem isside_ok {tab : Str → Option Fn} {wf nn : Nat} {g : List Cell} (h : tab "is_side" = some ⟨4, 2, issideB⟩) : (∀ b ∈ befs, callD tab wf (nn + 1) "is_side" [.str b, .int 0] g = .ok (.bl true, false) ⟨[], g⟩) ∧ ∀ b ∈ behs, callD tab wf (nn + 1) "is_side" [.str b, .int 1] g = .ok (.bl true, false) ⟨[], g⟩ := by
  refine ⟨fun b hb => ?_, fun b hb => ?_⟩
  · rw [call_eq h rfl]
    simp only [befs, List.mem_cons, List.not_mem_nil, or_false] at hb
    rcases hb with rfl | rfl | rfl | rfl | rfl | rfl | rfl <;> rfl
  · rw [call_eq h rfl]
    simp only [behs, List.mem_cons, List.not_mem_nil, or_false] at hb
    rcases hb with rfl | rfl | rfl | rfl | rfl | rfl | rfl <;> rfl
def issoundB : List Q := [.if_ (.or_ (.not_ (.isi (.v 0) .tuple)) (.or_ (.cmp .ne (.bi .len [.v 0]) (.c (.int 4))) (.or_ (.not_ (.call "is_run" [.ix (.v 0) (.c (.int 1)), .c (.int 1), .c (.int 2)])) (.not_ (.call "is_run" [.ix (.v 0) (.c (.int 2)), .c (.int 1), .c (.int 2)]))))) [.ret (.c (.bl false))] [], .ret (.and_ (.call "is_side" [.ix (.v 0) (.c (.int 0)), .c (.int 0)]) (.call "is_side" [.ix (.v 0) (.c (.int 3)), .c (.int 1)]))]
theorem abc_let {z : Nat} (h : z ∈ abc) : z ∈ letters := by revert z h; decide
theorem issound_ok {tab : Str → Option Fn} {wf nn : Nat} {g : List Cell} {d : D} (h : tab "is_sound" = some ⟨1, 1, issoundB⟩) (hr : tab "is_run" = some ⟨4, 3, isrunB⟩) (hs : tab "is_side" = some ⟨4, 2, issideB⟩) (hd : GoodS d) : callD tab wf (nn + 2) "is_sound" [d] g = .ok (.bl true, false) ⟨[], g⟩ := by
  obtain ⟨b, o, n, e, rfl, hb, hh, ⟨o1, o2⟩, ⟨n1, n2⟩, ho, hn⟩ := hd
  rw [call_eq h rfl]
  have a1 := isrun_ok (wf := wf) (nn := nn) (g := g) (t := o) (lo := 1) (hi := 2) hr (by omega) (by omega) (by unfold lim; omega) fun z q => abc_let (ho z q)
  have a2 := isrun_ok (wf := wf) (nn := nn) (g := g) (t := n) (lo := 1) (hi := 2) hr (by omega) (by omega) (by unfold lim; omega) fun z q => abc_let (hn z q)
  have a3 := (isside_ok (wf := wf) (nn := nn) (g := g) hs).1 b hb
  have a4 := (isside_ok (wf := wf) (nn := nn) (g := g) hs).2 e hh
  show finC (exs _ issoundB ⟨[some (sd b o n e, false)], g⟩) = _
  have i3 : ixOf 4 3 = some 3 := rfl
  simp [issoundB, sd, a1, a2, a3, a4, i3]
def needB : List Q := [.if_ (.not_ (.isi (.v 0) .tuple)) [.raise "BadSounds" [.neg (.c (.int 1))]] [], .for_ (.tup [(.nm 1), (.nm 2)]) .enum [.v 0] [.if_ (.or_ (.cmp .eq (.v 1) (.c (.int 6))) (.not_ (.call "is_sound" [.v 2]))) [.raise "BadSounds" [.v 1]] []]]
theorem need_ok {tab : Str → Option Fn} {wf nn : Nat} {g : List Cell} {ss : List D} (hn : tab "need_sounds" = some ⟨3, 1, needB⟩) (h : tab "is_sound" = some ⟨1, 1, issoundB⟩) (hr : tab "is_run" = some ⟨4, 3, isrunB⟩) (hs : tab "is_side" = some ⟨4, 2, issideB⟩) (hd : ∀ d ∈ ss, GoodS d) (hl : ss.length ≤ 6) : callD tab wf (nn + 3) "need_sounds" [.tup ss] g = .ok (.non, false) ⟨[], g⟩ := by
  rw [call_eq hn rfl]
  obtain ⟨s', e1, q1, q2, rfl⟩ := for_inv (bindx := fun d s => bindT (.tup [.nm 1, .nm 2]) d false s) (body := fun s => exs ⟨callD tab wf (nn + 2), wf⟩ [.if_ (.or_ (.cmp .eq (.v 1) (.c (.int 6))) (.not_ (.call "is_sound" [.v 2]))) [.raise "BadSounds" [.v 1]] []] s) (fun s => ∃ q1 q2, s = ⟨[some (.tup ss, false), q1, q2], g⟩) (ss.zipIdx.map fun p => .tup [.int p.2, p.1]) ⟨[some (.tup ss, false), none, none], g⟩ ⟨none, none, rfl⟩ (by
    rintro x hx s ⟨q1, q2, rfl⟩
    obtain ⟨⟨d, k⟩, hk, rfl⟩ := List.mem_map.mp hx
    have hk2 := List.mem_zipIdx_iff_getElem?.mp hk
    have kl := (List.getElem?_eq_some_iff.mp hk2).1
    have a := issound_ok (wf := wf) (nn := nn) (g := g) h hr hs (hd d (List.mem_of_getElem? hk2))
    refine ⟨_, ⟨[some (.tup ss, false), some (.int k, false), some (d, false)], g⟩, rfl, ?_, _, _, rfl⟩
    have : ((k : Int) == 6) = false := by rw [beq_eq_false_iff_ne]; omega
    simp [this, a])
  have e2 := for_run (C := ⟨callD tab wf (nn + 2), wf⟩) (sk := .enum) (sa := [.v 0]) (s := ⟨[some (.tup ss, false), none, none], g⟩) rfl src_et e1
  show finC (exs _ needB ⟨[some (.tup ss, false), none, none], g⟩) = _
  simp [needB, e2]
end Lm.Pl
set_option Elab.async false
set_option linter.all false
set_option maxRecDepth 100000
set_option maxHeartbeats 4000000
/-! k05: how sounds are thrown. -/
namespace Lm.Pl
open PySem
theorem for_invi {bindx : D → S → R Unit} {body : S → R Ctl} (N : Nat) (I : Nat → S → Prop) : ∀ (xs : List D) (k : Nat) (s : S), k + xs.length ≤ N → I k s → (∀ x ∈ xs, ∀ k s, k < N → I k s → ∃ s1 s2, bindx x s = .ok () s1 ∧ body s1 = .ok .nx s2 ∧ I (k + 1) s2) → ∃ s', forLoop bindx body xs s = .ok .nx s' ∧ I (k + xs.length) s'
  | [], k, s, _, h, _ => ⟨s, rfl, h⟩
  | x :: xs, k, s, hl, h, f => by
    rw [List.length_cons] at hl
    obtain ⟨s1, s2, e1, e2, h2⟩ := f x List.mem_cons_self k s (by omega) h
    obtain ⟨s', e3, h3⟩ := for_invi N I xs (k + 1) s2 (by omega) h2 fun y hy => f y (List.mem_cons_of_mem _ hy)
    refine ⟨s', (for_step e1 e2).trans e3, ?_⟩
    rw [List.length_cons, show k + (xs.length + 1) = k + 1 + xs.length from by omega]
    exact h3
theorem evs_consts {α : Type} {C : Ctx} {s : S} (f : α → D) : ∀ L : List α, evs C (L.map fun u => .c (f u)) s = .ok (L.map f) s
  | [] => rfl
  | a :: L => by
    rw [List.map_cons, evs_cons, ev_c, R.bind_ok, evs_consts f L]
    rfl
theorem set_same {α : Type} : ∀ (r : List α) (i : Nat) (x : α), r[i]? = some x → r.set i x = r
  | [], i, x, h => rfl
  | a :: r, 0, x, h => by cases h; rfl
  | a :: r, i + 1, x, h => by rw [List.set_cons_succ, set_same r i x h]
/-- one of a list, as the dice fall -/
theorem pick_ok {α : Type} {tab : Str → Option Fn} {wf n i : Nat} (f : α → D) (L : List α) {r : List (Option (D × Bool))} {c : List D} (ho : tab "_law_off" = some ⟨3, 2, offB⟩) (hL : 1 ≤ L.length) (hL2 : L.length ≤ 1000) (h0 : r[i]? = some (some (.obj 0, false))) (hc : Dice c) :
    ∃ u ∈ L, ∃ c', Dice c' ∧ ev ⟨callD tab wf (n + 1), wf⟩ (.ix (.lst (L.map fun u => .c (f u))) (.call "_law_off" [.v i, .c (.int L.length)])) ⟨r, [.lst c]⟩ = .ok (f u, false) ⟨r, [.lst c']⟩ := by
  obtain ⟨q, c', hc', q1, q2, e⟩ := off_ok (wf := wf) (n := n) (u := L.length) ho hc (by omega) (by omega)
  have q3 : q.toNat < L.length := by omega
  refine ⟨L[q.toNat], List.getElem_mem q3, c', hc', ?_⟩
  rw [ev_ix, ev2_eq]
  show R.bind (R.bind (ev _ (.lst _) _) _) _ = _
  rw [ev_lst, evs_consts f L, R.bind_ok, if_pos (by rw [List.length_map]; unfold lim; omega), R.bind_ok]
  simp only [ev_call, evs_cons, evs_nil, ev_v, ev_c, rd_mk, h0, rdO_s, R.bind_ok, wr_mk, set_same _ _ _ h0, e, callR_ok, i_lst, List.length_map, ix_lt q1 q2, Option.bind_some, List.getElem?_map, List.getElem?_eq_getElem q3, Option.map_some, rof_some]
def long : D → Bool
  | .tup [_, .str o, .str n, _] => decide ((n.length : Int) < o.length)
  | _ => false
def shrB : List Q := [.ret (.cmp .ne (.lc [1] (.nm 1) .val [.v 0] (some (.cmp .gt (.bi .len [.ix (.v 1) (.c (.int 1))]) (.bi .len [.ix (.v 1) (.c (.int 2))]))) (.v 1)) (.lst []))]
theorem good_plain {d : D} (h : GoodS d) : plain 59 d = true := by
  obtain ⟨b, o, n, e, rfl, hb, he, _, _, ho, hn⟩ := h
  have f1 : ∀ u : List Nat, (∀ z ∈ u, z < 1114112) → plain 58 (.str u) = true := fun u hu => by
    show u.all (fun c => decide (c < 1114112)) = true
    exact List.all_eq_true.mpr fun z q => decide_eq_true (hu z q)
  have f2 : ∀ z ∈ abc, z < 1114112 := by decide
  have f3 : ∀ b ∈ befs, ∀ z ∈ b, z < 1114112 := by decide
  have f4 : ∀ b ∈ behs, ∀ z ∈ b, z < 1114112 := by decide
  show [D.str b, .str o, .str n, .str e].all (plain 58) = true
  simp only [List.all_cons, List.all_nil, f1 b (f3 b hb), f1 o fun z q => f2 z (ho z q), f1 n fun z q => f2 z (hn z q), f1 e (f4 e he), Bool.and_self]
theorem shr_ok {tab : Str → Option Fn} {wf nn : Nat} {g : List Cell} {ss : List D} (h : tab "_law_shrinks" = some ⟨2, 1, shrB⟩) (hs : ∀ d ∈ ss, GoodS d) (hl : ss.length ≤ 100) : ∃ b, callD tab wf (nn + 1) "_law_shrinks" [.lst ss] g = .ok (.bl b, false) ⟨[], g⟩ := by
  have e1 := lc_flt (own := [1]) (bindx := fun d s => bindT (.nm 1) d false s) (cond := evc ⟨callD tab wf nn, wf⟩ (some (.cmp .gt (.bi .len [.ix (.v 1) (.c (.int 1))]) (.bi .len [.ix (.v 1) (.c (.int 2))])))) (elt := fun s => ev ⟨callD tab wf nn, wf⟩ (.v 1) s) (s := ⟨[some (.lst ss, false), none], g⟩) id long ss [] (by simp; unfold lim; omega) (by
    intro d hd
    obtain ⟨b, o, n, e, rfl, hb, he, ⟨_, ho⟩, ⟨_, hn⟩, _, _⟩ := hs d hd
    have lo : o.length ≤ lim := by unfold lim; omega
    have ln : n.length ≤ lim := by unfold lim; omega
    refine ⟨⟨[some (.lst ss, false), some (sd b o n e, false)], g⟩, ⟨[some (.lst ss, false), some (sd b o n e, false)], g⟩, rfl, ?_, rfl, fun _ => ⟨false, ⟨[some (.lst ss, false), some (sd b o n e, false)], g⟩, rfl, rfl⟩⟩
    simp [sd, lo, ln, long])
  have e2 := lc_run (C := ⟨callD tab wf nn, wf⟩) (sk := .val) (sa := [.v 0]) (s := ⟨[some (.lst ss, false), none], g⟩) (s1 := ⟨[some (.lst ss, false), none], g⟩) (ds := [.lst ss]) rfl src_lst rfl e1
  have e3 := c_nel (xs := [] ++ (ss.filter long).map id) (List.all_eq_true.mpr fun d q => by
    rw [List.nil_append, List.map_id] at q
    exact good_plain (hs d (List.mem_filter.mp q).1))
  refine ⟨!([] ++ (ss.filter long).map id).isEmpty, ?_⟩
  rw [call_eq h rfl]
  show finC (exs _ shrB ⟨[some (.lst ss, false), none], g⟩) = _
  simp only [shrB, exs_cons, ex_ret_cmp, ev_cmp, ev2_eq, isV_lc, isV_lst, ev2_4, e2, R.bind_ok, ev_lst, evs_nil, List.length_nil, Nat.zero_le, if_true, e3, rof_some, nxK_ret, fin_ret]
  rfl
def soundsS : List Q := [.asg (.nm 3) (.ix (.lst [.c (.str []), .c (.str []), .c (.str [97]), .c (.str [98]), .c (.str [35]), .c (.str [35, 97]), .c (.str [97, 98])]) (.call "_law_off" [.v 0, .c (.int 7)])), .asg (.nm 4) (.ix (.lst [.c (.str []), .c (.str []), .c (.str [97]), .c (.str [98]), .c (.str [35]), .c (.str [98, 35]), .c (.str [98, 97])]) (.call "_law_off" [.v 0, .c (.int 7)])), .asg (.tup [(.nm 5), (.nm 6)]) (.tup [.call "_law_text" [.v 0, .c (.int 1), .c (.int 2), .c (.str [97, 98, 99])], .call "_law_text" [.v 0, .c (.int 1), .c (.int 2), .c (.str [97, 98, 99])]]), .if_ (.callb "_law_shrinks" [1]) [.asg (.nm 6) (.bin .add (.v 6) (.bin .mul (.c (.str [97])) (.bin .sub (.bi .len [.v 5]) (.bi .len [.v 6]))))] [], .app 1 (.tup [.v 3, .v 5, .v 6, .v 4])]
def soundsB : List Q := [.asg (.nm 1) (.lst []), .for_ (.nm 2) .rng1 [.ix (.lst [.c (.int 0), .c (.int 1), .c (.int 2), .c (.int 3), .c (.int 6)]) (.call "_law_off" [.v 0, .c (.int 5)])] [.asg (.nm 3) (.ix (.lst [.c (.str []), .c (.str []), .c (.str [97]), .c (.str [98]), .c (.str [35]), .c (.str [35, 97]), .c (.str [97, 98])]) (.call "_law_off" [.v 0, .c (.int 7)])), .asg (.nm 4) (.ix (.lst [.c (.str []), .c (.str []), .c (.str [97]), .c (.str [98]), .c (.str [35]), .c (.str [98, 35]), .c (.str [98, 97])]) (.call "_law_off" [.v 0, .c (.int 7)])), .asg (.tup [(.nm 5), (.nm 6)]) (.tup [.call "_law_text" [.v 0, .c (.int 1), .c (.int 2), .c (.str [97, 98, 99])], .call "_law_text" [.v 0, .c (.int 1), .c (.int 2), .c (.str [97, 98, 99])]]), .if_ (.callb "_law_shrinks" [1]) [.asg (.nm 6) (.bin .add (.v 6) (.bin .mul (.c (.str [97])) (.bin .sub (.bi .len [.v 5]) (.bi .len [.v 6]))))] [], .app 1 (.tup [.v 3, .v 5, .v 6, .v 4])], .ret (.bi .tuple [.v 1])]
structure Tab2 (tab : Str → Option Fn) : Prop where
  off : tab "_law_off" = some ⟨3, 2, offB⟩
  text : tab "_law_text" = some ⟨5, 4, textB⟩
  shr : tab "_law_shrinks" = some ⟨2, 1, shrB⟩
theorem dice_flat {c : List D} (h : Dice c) : flatG [.lst c] = true := by
  obtain ⟨x, y, r, rfl⟩ := h
  have : (r.map D.int).all flat = true := by
    rw [List.all_map]
    exact List.all_eq_true.mpr fun _ _ => rfl
  show ((D.int x :: D.int y :: r.map D.int).all flat && true) = true
  rw [List.all_cons, List.all_cons, this]
  rfl
def soSt (ss : List D) (q2 q3 q4 q5 q6 : Option (D × Bool)) (c : List D) : S := ⟨[some (.obj 0, false), some (.lst ss, true), q2, q3, q4, q5, q6], [.lst c]⟩
theorem sounds_step {tab : Str → Option Fn} {wf nn : Nat} (T : Tab2 tab) {ss : List D} {q2 q3 q4 q5 q6 : Option (D × Bool)} {c : List D} (hc : Dice c) (hs : ∀ d ∈ ss, GoodS d) (hl : ss.length ≤ 50) :
    ∃ (d : D) (q3' q4' q5' q6' : Option (D × Bool)) (c' : List D), GoodS d ∧ Dice c' ∧ exs ⟨callD tab wf (nn + 2), wf⟩ soundsS (soSt ss q2 q3 q4 q5 q6 c) = .ok .nx (soSt (ss ++ [d]) q2 q3' q4' q5' q6' c') := by
  obtain ⟨b, hb, c1, hc1, e1⟩ := pick_ok (wf := wf) (n := nn + 1) (i := 0) (r := (soSt ss q2 q3 q4 q5 q6 c).r) D.str befs T.off (by decide) (by decide) rfl hc
  obtain ⟨h, hh, c2, hc2, e2⟩ := pick_ok (wf := wf) (n := nn + 1) (i := 0) (r := (soSt ss q2 (some (.str b, false)) q4 q5 q6 c).r) D.str behs T.off (by decide) (by decide) rfl hc1
  obtain ⟨o, c3, hc3, o1, o2, o3, e3⟩ := text_ok (wf := wf) (n := nn) (lo := 1) (hi := 2) (sg := abc) T.text T.off hc2 (by decide) (by decide) (by decide) (by decide) (by decide)
  obtain ⟨n, c4, hc4, n1, n2, n3, e4⟩ := text_ok (wf := wf) (n := nn) (lo := 1) (hi := 2) (sg := abc) T.text T.off hc3 (by decide) (by decide) (by decide) (by decide) (by decide)
  obtain ⟨z, e5⟩ := shr_ok (wf := wf) (nn := nn + 1) (g := [.lst c4]) T.shr hs (by omega)
  have hf := dice_flat hc4
  unfold soSt at e1 e2
  have e1 : ev ⟨callD tab wf (nn + 2), wf⟩ (.ix (.lst [.c (.str []), .c (.str []), .c (.str [97]), .c (.str [98]), .c (.str [35]), .c (.str [35, 97]), .c (.str [97, 98])]) (.call "_law_off" [.v 0, .c (.int 7)])) ⟨[some (.obj 0, false), some (.lst ss, true), q2, q3, q4, q5, q6], [.lst c]⟩ = _ := e1
  have e2 : ev ⟨callD tab wf (nn + 2), wf⟩ (.ix (.lst [.c (.str []), .c (.str []), .c (.str [97]), .c (.str [98]), .c (.str [35]), .c (.str [98, 35]), .c (.str [98, 97])]) (.call "_law_off" [.v 0, .c (.int 7)])) ⟨[some (.obj 0, false), some (.lst ss, true), q2, some (.str b, false), q4, q5, q6], [.lst c1]⟩ = _ := e2
  unfold abc at e3 e4
  have lo : o.length ≤ lim := by unfold lim; omega
  have ln : n.length ≤ lim := by unfold lim; omega
  have ap : ∀ n : List Nat, ex ⟨callD tab wf (nn + 2), wf⟩ (.app 1 (.tup [.v 3, .v 5, .v 6, .v 4])) ⟨[some (.obj 0, false), some (.lst ss, true), q2, some (.str b, false), some (.str h, false), some (.str o, false), some (.str n, false)], [.lst c4]⟩ = .ok .nx ⟨[some (.obj 0, false), some (.lst (ss ++ [sd b o n h]), true), q2, some (.str b, false), some (.str h, false), some (.str o, false), some (.str n, false)], [.lst c4]⟩ := fun n =>
    app_own (xs := ss) (d := sd b o n h) (o := false) (r' := [some (.obj 0, false), some (.lst ss, true), q2, some (.str b, false), some (.str h, false), some (.str o, false), some (.str n, false)]) (g' := [.lst c4]) rfl (by simp [sd, show 4 ≤ lim from by unfold lim; omega]) rfl (by unfold lim; omega)
  cases z with
  | false =>
    refine ⟨sd b o n h, some (.str b, false), some (.str h, false), some (.str o, false), some (.str n, false), c4, ⟨b, o, n, h, rfl, hb, hh, ⟨by omega, by omega⟩, ⟨by omega, by omega⟩, o3, n3⟩, hc4, ?_⟩
    simp only [soundsS, soSt, exs_cons, exs_nil, ex_asg, e1, e2, R.bind_ok, bt_nm, wr_mk, List.set_cons_zero, List.set_cons_succ, nxK_nx, ev_tup, evs_cons, evs_nil, ev_call, ev_v, ev_c, rd_mk, rdO_s, List.getElem?_cons_zero, List.getElem?_cons_succ, e3, e4, callR_ok, List.length_cons, List.length_nil, show 0 + 1 + 1 ≤ lim from by unfold lim; omega, if_true, bt_tup, bts_cons, bts_nil, ex_if, ev_callb, lent_cons, lent_nil, e5, callbR_ok, hf, flat, Bool.and_self, asB_bl, rof_some, Bool.false_eq_true, if_false, ap]
  | true =>
    have e6 : (o.length : Int) - n.length ≤ 1000 := by omega
    have la : (List.replicate ((o.length : Int) - n.length).toNat ([97] : List Nat)).flatten.length = ((o.length : Int) - n.length).toNat := by simp
    refine ⟨sd b o (n ++ (List.replicate ((o.length : Int) - n.length).toNat [97]).flatten) h, some (.str b, false), some (.str h, false), some (.str o, false), some (.str (n ++ (List.replicate ((o.length : Int) - n.length).toNat [97]).flatten), false), c4, ⟨b, o, _, h, rfl, hb, hh, ⟨by omega, by omega⟩, ⟨by rw [List.length_append]; omega, by rw [List.length_append, la]; omega⟩, o3, fun z q => ?_⟩, hc4, ?_⟩
    · rcases List.mem_append.mp q with q | q
      · exact n3 z q
      · obtain ⟨l, hl, hz⟩ := List.mem_flatten.mp q
        rw [(List.mem_replicate.mp hl).2] at hz
        rw [List.mem_singleton.mp hz]
        decide
    · simp only [soundsS, soSt, exs_cons, exs_nil, ex_asg, e1, e2, R.bind_ok, bt_nm, wr_mk, List.set_cons_zero, List.set_cons_succ, nxK_nx, ev_tup, evs_cons, evs_nil, ev_call, ev_v, ev_c, rd_mk, rdO_s, List.getElem?_cons_zero, List.getElem?_cons_succ, e3, e4, callR_ok, List.length_cons, List.length_nil, show 0 + 1 + 1 ≤ lim from by unfold lim; omega, if_true, bt_tup, bts_cons, bts_nil, ex_if, ev_callb, lent_cons, lent_nil, e5, callbR_ok, hf, flat, Bool.and_self, asB_bl, rof_some,
        ev_bin, ev_bi, evb_one, isV_v, evb_1, look_mk, lookO_str, l_str, lo, ln, Option.map_some, b_sub, b_muls]
      rw [if_pos ⟨by omega, by omega⟩]
      simp only [rof_some, R.bind_ok, b_adds, la]
      rw [if_pos (by unfold lim; omega)]
      simp only [rof_some, R.bind_ok, exs_nil, exs_cons, nxK_nx, wr_mk, List.set_cons_zero, List.set_cons_succ, ap]
theorem sounds_ok {tab : Str → Option Fn} {wf nn : Nat} (T : Tab2 tab) (h : tab "_law_sounds" = some ⟨7, 1, soundsB⟩) {c : List D} (hc : Dice c) : ∃ (ss : List D) (c' : List D), Dice c' ∧ ss.length ≤ 6 ∧ (∀ d ∈ ss, GoodS d) ∧ callD tab wf (nn + 3) "_law_sounds" [.obj 0] [.lst c] = .ok (.tup ss, false) ⟨[], [.lst c']⟩ := by
  rw [call_eq h rfl]
  obtain ⟨k, hk, c1, hc1, e1⟩ := pick_ok (wf := wf) (n := nn + 1) (i := 0) (r := (soSt [] none none none none none c).r) D.int [0, 1, 2, 3, 6] T.off (by decide) (by decide) rfl hc
  have e1 : ev ⟨callD tab wf (nn + 2), wf⟩ (.ix (.lst [.c (.int 0), .c (.int 1), .c (.int 2), .c (.int 3), .c (.int 6)]) (.call "_law_off" [.v 0, .c (.int 5)])) (soSt [] none none none none none c) = .ok (.int k, false) (soSt [] none none none none none c1) := e1
  have hk6 : 0 ≤ k ∧ k ≤ 6 := by
    simp only [List.mem_cons, List.not_mem_nil, or_false] at hk
    omega
  obtain ⟨s', e2, ss, q2, q3, q4, q5, q6, c2, rfl, hc2, hs, hl⟩ := for_invi (bindx := fun d s => bindT (.nm 2) d false s) (body := fun s => exs ⟨callD tab wf (nn + 2), wf⟩ soundsS s) 6 (fun i s => ∃ ss q2 q3 q4 q5 q6 c, s = soSt ss q2 q3 q4 q5 q6 c ∧ Dice c ∧ (∀ d ∈ ss, GoodS d) ∧ ss.length = i) (rangeD 0 k) 0 (soSt [] none none none none none c1) (by rw [range_len]; omega) ⟨[], none, none, none, none, none, c1, rfl, hc1, fun _ q => (by cases q), rfl⟩ (by
    rintro x hx i s hi ⟨ss, q2, q3, q4, q5, q6, c, rfl, hc, hs, hl⟩
    obtain ⟨d, q3', q4', q5', q6', c', hd, hc', e⟩ := sounds_step (wf := wf) (nn := nn) T (q2 := some (x, false)) (q3 := q3) (q4 := q4) (q5 := q5) (q6 := q6) hc hs (by omega)
    refine ⟨soSt ss (some (x, false)) q3 q4 q5 q6 c, _, rfl, e, ss ++ [d], _, _, _, _, _, _, rfl, hc', fun y q => ?_, by rw [List.length_append, hl]; rfl⟩
    rcases List.mem_append.mp q with q | q
    · exact hs y q
    · rw [List.mem_singleton.mp q]; exact hd)
  have e3 := for_run (C := ⟨callD tab wf (nn + 2), wf⟩) (tg := .nm 2) (body := soundsS) (sk := .rng1) (sa := [.ix (.lst [.c (.int 0), .c (.int 1), .c (.int 2), .c (.int 3), .c (.int 6)]) (.call "_law_off" [.v 0, .c (.int 5)])]) (s := soSt [] none none none none none c) (s1 := soSt [] none none none none none c1) (ds := [.int k]) (by rw [evs_cons, e1, R.bind_ok]; rfl) (by rw [src_r1, if_pos (by omega)]) e2
  refine ⟨ss, c2, hc2, ?_, hs, ?_⟩
  · rw [hl, range_len]; omega
  · have hsplit : soundsB = [.asg (.nm 1) (.lst []), .for_ (.nm 2) .rng1 [.ix (.lst [.c (.int 0), .c (.int 1), .c (.int 2), .c (.int 3), .c (.int 6)]) (.call "_law_off" [.v 0, .c (.int 5)])] soundsS, .ret (.bi .tuple [.v 1])] := rfl
    show finC (exs _ soundsB ⟨[some (.obj 0, false), none, none, none, none, none, none], [.lst c]⟩) = _
    unfold soSt at e3
    rw [hsplit]
    simp only [exs_cons, ex_asg, ev_lst, evs_nil, R.bind_ok, List.length_nil, Nat.zero_le, if_true, bt_nm, wr_mk, List.set_cons_zero, List.set_cons_succ, nxK_nx, e3, ex_ret_bi, ev_bi, evb_one, isV_v, evb_1, look_mk, List.getElem?_cons_zero, List.getElem?_cons_succ, lookO_lst, l_tuple, rof_some, nxK_ret, fin_ret]
end Lm.Pl
set_option Elab.async false
set_option linter.all false
set_option maxRecDepth 100000
set_option maxHeartbeats 4000000
/-! k03: patterns, stems, forms. -/
namespace Lm.Pl
open PySem
section
variable {C : Ctx} {s : S} {i : Nat} {a : T} {as : List T} {f : Str} {r : List (Option (D × Bool))} {g : List Cell} {x y d : Int} {xs ys : List D} {dl : List D} {u : List Nat}
@[simp] theorem ev_maxd : ev C (.maxd a d) s = (ev C a s).bind fun x s1 => R.of (max0D x.1 (.int d)) s1 := rfl
@[simp] theorem ev_calld : ev C (.calld f as dl) s = (evs C as s).bind fun ds s1 => callR s1.r (C.call f (ds ++ dl) s1.g) := rfl
@[simp] theorem ev_callc : ev C (.callc f i a) s = (rd i s).bind fun _ s0 => (ev C a s0).bind fun x s1 => (rd i s1).bind fun d s2 => callbR s2.r (C.call f [d, x.1] s2.g) := rfl
theorem clr_own (h : r[i]? = some (some (.lst xs, true))) : ex C (.clr i) ⟨r, g⟩ = .ok .nx ⟨r.set i (some (.lst [], true)), g⟩ := by
  show (match getL i ⟨r, g⟩ with
      | some _ => R.ok Ctl.nx (putL i [] ⟨r, g⟩)
      | none => R.bad) = _
  simp only [getL_mk, h, putL_own h]
@[simp] theorem c_isN : cmpD .is .non .non = some true := rfl
@[simp] theorem c_isT : cmpD .is (.tup xs) .non = some false := rfl
@[simp] theorem c_isL : cmpD .is (.lst xs) .non = some false := rfl
@[simp] theorem c_isS : cmpD .is (.str u) .non = some false := rfl
@[simp] theorem c_isI : cmpD .is (.int x) .non = some false := rfl
@[simp] theorem c_isB {b : Bool} : cmpD .is (.bl b) .non = some false := rfl
@[simp] theorem c_isnN : cmpD .isn .non .non = some false := rfl
@[simp] theorem c_isnT : cmpD .isn (.tup xs) .non = some true := rfl
@[simp] theorem c_nn : cmpD .nin .non (.tup [.non, .int x]) = some false := rfl
@[simp] theorem isi_ii : isiD (.int x) .int = some true := rfl
@[simp] theorem isi_ib : isiD (.int x) .bool = some false := rfl
@[simp] theorem isi_bb {b : Bool} : isiD (.bl b) .bool = some true := rfl
@[simp] theorem isi_l1 : isiD (.lst xs) .bool = some false := rfl
@[simp] theorem isi_l2 : isiD (.lst xs) .int = some false := rfl
@[simp] theorem isi_l3 : isiD (.lst xs) .str = some false := rfl
@[simp] theorem isi_l4 : isiD (.lst xs) .tuple = some false := rfl
@[simp] theorem isi_l5 : isiD (.lst xs) .list = some true := rfl
@[simp] theorem isi_t1 : isiD (.tup xs) .bool = some false := rfl
@[simp] theorem isi_t2 : isiD (.tup xs) .int = some false := rfl
@[simp] theorem isi_t3 : isiD (.tup xs) .str = some false := rfl
@[simp] theorem isi_t5 : isiD (.tup xs) .list = some false := rfl
end
/-! ### alike to itself -/
def Okd : Nat → D → Prop
  | _, .non => True
  | _, .bl _ => True
  | _, .int _ => True
  | _, .str _ => True
  | k + 1, .tup xs => xs.length ≤ 1000 ∧ ∀ d ∈ xs, Okd k d
  | k + 1, .lst xs => xs.length ≤ 1000 ∧ ∀ d ∈ xs, Okd k d
  | _, _ => False
theorem bools_true : ∀ xs : List D, boolsD (xs.map fun _ => D.bl true) = some (xs.map fun _ => true) := fun xs => bools_map _ _ xs fun _ _ => rfl
theorem alike_seq {tab : Str → Option Fn} {wf n : Nat} {xs : List D} {g : List Cell} {w : D} (hw : w = .tup xs ∨ w = .lst xs) (h1 : xs.length ≤ 1000) (h2 : ∀ d ∈ xs, callD tab wf n "_law_alike" [d, d] g = .ok (.bl true, false) ⟨[], g⟩) :
    ev ⟨callD tab wf n, wf⟩ (.lc [2] (.nm 2) .rng1 [.bi .len [.v 1]] none (.call "_law_alike" [.ix (.v 0) (.v 2), .ix (.v 1) (.v 2)])) ⟨[some (w, false), some (w, false), none], g⟩ = .ok (.lst ((rangeD 0 xs.length).map fun _ => D.bl true), true) ⟨[some (w, false), some (w, false), none], g⟩ := by
  have e1 := lc_map (own := [2]) (bindx := fun d s => bindT (.nm 2) d false s) (cond := evc ⟨callD tab wf n, wf⟩ none) (elt := fun s => ev ⟨callD tab wf n, wf⟩ (.call "_law_alike" [.ix (.v 0) (.v 2), .ix (.v 1) (.v 2)]) s) (s := ⟨[some (w, false), some (w, false), none], g⟩) (fun _ => D.bl true) (rangeD 0 xs.length) (by rw [range_len]; unfold lim; omega) (by
    intro d hd
    obtain ⟨k, rfl, k1, k2⟩ := range_mem hd
    have kn : k.toNat < xs.length := by omega
    have e2 := h2 _ (List.getElem_mem kn)
    refine ⟨⟨[some (w, false), some (w, false), some (.int k, false)], g⟩, _, false, ⟨[some (w, false), some (w, false), some (.int k, false)], g⟩, rfl, rfl, rfl, ?_, rfl⟩
    rcases hw with rfl | rfl <;> simp [ix_lt k1 k2, kn, e2])
  refine lc_run (C := ⟨callD tab wf n, wf⟩) (own := [2]) (s1 := ⟨[some (w, false), some (w, false), none], g⟩) (s3 := ⟨[some (w, false), some (w, false), none], g⟩) (ds := [.int xs.length]) (xs := rangeD 0 xs.length) ?_ ?_ rfl e1
  · rcases hw with rfl | rfl <;> simp
  · rw [src_r1, if_pos (by omega)]
theorem alike_refl {tab : Str → Option Fn} {wf n : Nat} {g : List Cell} (h : tab "_law_alike" = some ⟨3, 2, alikeB⟩) : ∀ (k : Nat) (d : D), Okd k d → callD tab wf (n + 1 + k) "_law_alike" [d, d] g = .ok (.bl true, false) ⟨[], g⟩ := by
  intro k
  induction k with
  | zero =>
    intro d hd
    rw [show n + 1 + 0 = n + 1 from rfl, call_eq h rfl]
    cases d with
    | non => show finC (exs _ alikeB ⟨[some (.non, false), some (.non, false), none], g⟩) = _; simp [alikeB]
    | bl b => show finC (exs _ alikeB ⟨[some (.bl b, false), some (.bl b, false), none], g⟩) = _; simp [alikeB]
    | int x => show finC (exs _ alikeB ⟨[some (.int x, false), some (.int x, false), none], g⟩) = _; simp [alikeB]
    | str u => show finC (exs _ alikeB ⟨[some (.str u, false), some (.str u, false), none], g⟩) = _; simp [alikeB]
    | _ => exact hd.elim
  | succ k ih =>
    intro d hd
    rw [show n + 1 + (k + 1) = (n + 1 + k) + 1 from rfl, call_eq h rfl]
    cases d with
    | non => show finC (exs _ alikeB ⟨[some (.non, false), some (.non, false), none], g⟩) = _; simp [alikeB]
    | bl b => show finC (exs _ alikeB ⟨[some (.bl b, false), some (.bl b, false), none], g⟩) = _; simp [alikeB]
    | int x => show finC (exs _ alikeB ⟨[some (.int x, false), some (.int x, false), none], g⟩) = _; simp [alikeB]
    | str u => show finC (exs _ alikeB ⟨[some (.str u, false), some (.str u, false), none], g⟩) = _; simp [alikeB]
    | tup xs =>
      have e := alike_seq (tab := tab) (wf := wf) (n := n + 1 + k) (xs := xs) (g := g) (.inl rfl) hd.1 fun d hd2 => ih d (hd.2 d hd2)
      show finC (exs _ alikeB ⟨[some (.tup xs, false), some (.tup xs, false), none], g⟩) = _
      simp [alikeB, e, bools_true]
    | lst xs =>
      have e := alike_seq (tab := tab) (wf := wf) (n := n + 1 + k) (xs := xs) (g := g) (.inr rfl) hd.1 fun d hd2 => ih d (hd.2 d hd2)
      show finC (exs _ alikeB ⟨[some (.lst xs, false), some (.lst xs, false), none], g⟩) = _
      simp [alikeB, e, bools_true]
    | _ => exact hd.elim
/-! ### patterns -/
def GoodE (d : D) : Prop := d = .non ∨ ∃ (k : Int) (t : List Nat), d = .tup [.int k, .str t] ∧ 0 ≤ k ∧ k ≤ 2 ∧ t.length ≤ 6 ∧ ∀ z ∈ t, z ∈ abc
def isnumB : List Q := [.ret (.and_ (.isi (.v 0) .int) (.and_ (.not_ (.isi (.v 0) .bool)) (.chain .le .le (.v 1) (.v 0) (.v 2))))]
theorem isnum_ok {tab : Str → Option Fn} {wf nn : Nat} {g : List Cell} {k lo hi : Int} (h : tab "is_number" = some ⟨3, 3, isnumB⟩) (h1 : lo ≤ k) (h2 : k ≤ hi) : callD tab wf (nn + 1) "is_number" [.int k, .int lo, .int hi] g = .ok (.bl true, false) ⟨[], g⟩ := by
  rw [call_eq h rfl]
  show finC (exs _ isnumB ⟨[some (.int k, false), some (.int lo, false), some (.int hi, false)], g⟩) = _
  simp [isnumB, h1, h2]
def isentB : List Q := [.if_ (.cmp .is (.v 0) (.c .non)) [.ret (.c (.bl true))] [], .if_ (.or_ (.not_ (.isi (.v 0) .tuple)) (.or_ (.cmp .ne (.bi .len [.v 0]) (.c (.int 2))) (.not_ (.call "is_number" [.ix (.v 0) (.c (.int 0)), .c (.int 0), .bin .sub (.c (.int 3)) (.c (.int 1))])))) [.ret (.c (.bl false))] [], .ret (.call "is_run" [.ix (.v 0) (.c (.int 1)), .c (.int 0), .c (.int 6)])]
theorem isent_ok {tab : Str → Option Fn} {wf nn : Nat} {g : List Cell} {d : D} (h : tab "is_entry" = some ⟨1, 1, isentB⟩) (hn : tab "is_number" = some ⟨3, 3, isnumB⟩) (hr : tab "is_run" = some ⟨4, 3, isrunB⟩) (hd : GoodE d) : callD tab wf (nn + 2) "is_entry" [d] g = .ok (.bl true, false) ⟨[], g⟩ := by
  rw [call_eq h rfl]
  rcases hd with rfl | ⟨k, t, rfl, k1, k2, t1, t2⟩
  · show finC (exs _ isentB ⟨[some (.non, false)], g⟩) = _
    simp [isentB]
  · have a1 := isnum_ok (wf := wf) (nn := nn) (g := g) (k := k) (lo := 0) (hi := 2) hn k1 k2
    have a2 := isrun_ok (wf := wf) (nn := nn) (g := g) (t := t) (lo := 0) (hi := 6) hr (by omega) (by omega) (by unfold lim; omega) fun z q => abc_let (t2 z q)
    show finC (exs _ isentB ⟨[some (.tup [.int k, .str t], false)], g⟩) = _
    simp [isentB, a1, a2]
def needpB : List Q := [.if_ (.or_ (.not_ (.isi (.v 0) .tuple)) (.or_ (.not_ (.chain .le .le (.c (.int 1)) (.bi .len [.v 0]) (.c (.int 8)))) (.cmp .nin (.v 1) (.tup [.c .non, .bi .len [.v 0]])))) [.raise "BadPattern" [.neg (.c (.int 1))]] [], .for_ (.tup [(.nm 2), (.nm 3)]) .enum [.v 0] [.if_ (.not_ (.call "is_entry" [.v 3])) [.raise "BadPattern" [.v 2]] []]]
theorem needp_ok {tab : Str → Option Fn} {wf nn : Nat} {g : List Cell} {es : List D} (hp : tab "need_pattern" = some ⟨4, 2, needpB⟩) (h : tab "is_entry" = some ⟨1, 1, isentB⟩) (hn : tab "is_number" = some ⟨3, 3, isnumB⟩) (hr : tab "is_run" = some ⟨4, 3, isrunB⟩) (hd : ∀ d ∈ es, GoodE d) (h1 : 1 ≤ es.length) (h2 : es.length ≤ 8) :
    callD tab wf (nn + 3) "need_pattern" [.tup es, .non] g = .ok (.non, false) ⟨[], g⟩ := by
  rw [call_eq hp rfl]
  obtain ⟨s', e1, q1, q2, rfl⟩ := for_inv (bindx := fun d s => bindT (.tup [.nm 2, .nm 3]) d false s) (body := fun s => exs ⟨callD tab wf (nn + 2), wf⟩ [.if_ (.not_ (.call "is_entry" [.v 3])) [.raise "BadPattern" [.v 2]] []] s) (fun s => ∃ q1 q2, s = ⟨[some (.tup es, false), some (.non, false), q1, q2], g⟩) (es.zipIdx.map fun p => .tup [.int p.2, p.1]) ⟨[some (.tup es, false), some (.non, false), none, none], g⟩ ⟨none, none, rfl⟩ (by
    rintro x hx s ⟨q1, q2, rfl⟩
    obtain ⟨⟨d, k⟩, hk, rfl⟩ := List.mem_map.mp hx
    have hk2 := List.mem_zipIdx_iff_getElem?.mp hk
    have a := isent_ok (wf := wf) (nn := nn) (g := g) h hn hr (hd d (List.mem_of_getElem? hk2))
    refine ⟨_, ⟨[some (.tup es, false), some (.non, false), some (.int k, false), some (d, false)], g⟩, rfl, ?_, _, _, rfl⟩
    simp [a])
  have e2 := for_run (C := ⟨callD tab wf (nn + 2), wf⟩) (sk := .enum) (sa := [.v 0]) (s := ⟨[some (.tup es, false), some (.non, false), none, none], g⟩) rfl src_et e1
  show finC (exs _ needpB ⟨[some (.tup es, false), some (.non, false), none, none], g⟩) = _
  have l1 : (1 : Int) ≤ es.length := by omega
  have l2 : (es.length : Int) ≤ 8 := by omega
  simp [needpB, e2, l1, l2, show 2 ≤ lim from by unfold lim; omega]
end Lm.Pl
set_option Elab.async false
set_option linter.all false
set_option maxRecDepth 100000
set_option maxHeartbeats 4000000
/-! k03: stems and forms. -/
namespace Lm.Pl
open PySem
def isnD : D → Bool
  | .non => false
  | _ => true
def fstD : D → D
  | .tup (x :: _) => x
  | d => d
def keyD : D → Option Int
  | .tup (.int k :: _) => some k
  | _ => none
def keys (es : List D) : List Int := es.filterMap keyD
def mkS (es : List D) : Int := (keys es).foldl max 0
theorem keys_eq : ∀ es : List D, (∀ d ∈ es, GoodE d) → (es.filter isnD).map fstD = (keys es).map .int
  | [], _ => rfl
  | d :: es, h => by
    have ih := keys_eq es fun x hx => h x (List.mem_cons_of_mem _ hx)
    rcases h d List.mem_cons_self with rfl | ⟨k, t, rfl, _⟩
    · exact ih
    · show D.int k :: (es.filter isnD).map fstD = D.int k :: (keys es).map .int
      rw [ih]
theorem ints_of : ∀ ks : List Int, intsD (ks.map .int) = some ks
  | [] => rfl
  | k :: ks => by
    show (intsD (ks.map .int)).map _ = _
    rw [ints_of ks]; rfl
theorem fmax : ∀ (ks : List Int) (a : Int), a ≤ ks.foldl max a ∧ (∀ k ∈ ks, k ≤ ks.foldl max a) ∧ (a ≤ 2 → (∀ k ∈ ks, k ≤ 2) → ks.foldl max a ≤ 2)
  | [], a => ⟨Int.le_refl a, fun _ q => (by cases q), fun h _ => h⟩
  | k :: ks, a => by
    obtain ⟨h1, h2, h3⟩ := fmax ks (max a k)
    rw [List.foldl_cons]
    refine ⟨by omega, fun j q => ?_, fun h4 h5 => h3 (by have := h5 k List.mem_cons_self; omega) fun j q => h5 j (List.mem_cons_of_mem _ q)⟩
    rcases List.mem_cons.mp q with rfl | q
    · omega
    · exact h2 j q
theorem key_mem {es : List D} {k : Int} (h : k ∈ keys es) (hg : ∀ d ∈ es, GoodE d) : 0 ≤ k ∧ k ≤ 2 := by
  obtain ⟨d, hd, e⟩ := List.mem_filterMap.mp h
  rcases hg d hd with rfl | ⟨j, t, rfl, j1, j2, _⟩
  · cases e
  · have e : some j = some k := e
    cases e
    exact ⟨j1, j2⟩
theorem mk_bd {es : List D} (hg : ∀ d ∈ es, GoodE d) : 0 ≤ mkS es ∧ mkS es ≤ 2 ∧ ∀ k t, D.tup [.int k, t] ∈ es → k ≤ mkS es := by
  obtain ⟨h1, h2, h3⟩ := fmax (keys es) 0
  exact ⟨h1, h3 (by decide) fun k q => (key_mem q hg).2, fun k t q => h2 k (List.mem_filterMap.mpr ⟨_, q, rfl⟩)⟩
theorem maxI_mk {es : List D} (hg : ∀ d ∈ es, GoodE d) : (maxI (keys es)).getD 0 = mkS es := by
  unfold mkS
  cases e : keys es with
  | nil => rfl
  | cons k ks =>
    have := (key_mem (es := es) (k := k) (by rw [e]; exact List.mem_cons_self) hg).1
    show ks.foldl max k = ks.foldl max (max 0 k)
    rw [show max 0 k = k from by omega]
abbrev keysT : T := .lc [1] (.nm 1) .val [.v 0] (some (.cmp .isn (.v 1) (.c .non))) (.ix (.v 1) (.c (.int 0)))
theorem keys_lc {C : Ctx} {es : List D} {g : List Cell} (hg : ∀ d ∈ es, GoodE d) (hl : es.length ≤ 8) : ev C keysT ⟨[some (.tup es, false), none], g⟩ = .ok (.lst ((keys es).map .int), true) ⟨[some (.tup es, false), none], g⟩ := by
  have e1 := lc_flt (own := [1]) (bindx := fun d s => bindT (.nm 1) d false s) (cond := evc C (some (.cmp .isn (.v 1) (.c .non)))) (elt := fun s => ev C (.ix (.v 1) (.c (.int 0))) s) (s := ⟨[some (.tup es, false), none], g⟩) fstD isnD es [] (by simp; unfold lim; omega) (by
    intro d hd
    refine ⟨⟨[some (.tup es, false), some (d, false)], g⟩, ⟨[some (.tup es, false), some (d, false)], g⟩, rfl, ?_, rfl, fun hn => ⟨false, ⟨[some (.tup es, false), some (d, false)], g⟩, ?_, rfl⟩⟩
    · rcases hg d hd with rfl | ⟨k, t, rfl, _⟩ <;> simp [isnD]
    · rcases hg d hd with rfl | ⟨k, t, rfl, _⟩
      · cases hn
      · simp [fstD])
  rw [keys_eq es hg] at e1
  exact lc_run (C := C) (sk := .val) (sa := [.v 0]) (s := ⟨[some (.tup es, false), none], g⟩) (s1 := ⟨[some (.tup es, false), none], g⟩) (ds := [.tup es]) rfl src_tup rfl e1
def stemsofB : List Q := [.ret (.bin .add (.maxd (.lc [1] (.nm 1) .val [.v 0] (some (.cmp .isn (.v 1) (.c .non))) (.ix (.v 1) (.c (.int 0)))) 0) (.c (.int 1)))]
def lstemsofB : List Q := [.ret (.bin .add (.bi .max [.bin .add (.lst [.c (.int 0)]) (.lc [1] (.nm 1) .val [.v 0] (some (.cmp .isn (.v 1) (.c .non))) (.ix (.v 1) (.c (.int 0))))]) (.c (.int 1)))]
theorem stemsof_ok {tab : Str → Option Fn} {wf nn : Nat} {g : List Cell} {es : List D} (h : tab "stems_of" = some ⟨2, 1, stemsofB⟩) (hg : ∀ d ∈ es, GoodE d) (hl : es.length ≤ 8) : callD tab wf (nn + 1) "stems_of" [.tup es] g = .ok (.int (mkS es + 1), false) ⟨[], g⟩ := by
  rw [call_eq h rfl]
  have e := keys_lc (C := ⟨callD tab wf nn, wf⟩) (g := g) hg hl
  have e2 : max0D (.lst ((keys es).map .int)) (.int 0) = some (.int (mkS es), false) := by
    show (intsD ((keys es).map .int)).map _ = _
    rw [ints_of, ← maxI_mk hg]; rfl
  show finC (exs _ stemsofB ⟨[some (.tup es, false), none], g⟩) = _
  simp only [stemsofB, exs_cons, ex_ret_bin, ev_bin, ev_maxd, e, R.bind_ok, e2, rof_some, ev_c, b_add, nxK_ret, fin_ret]
theorem lstemsof_ok {tab : Str → Option Fn} {wf nn : Nat} {g : List Cell} {es : List D} (h : tab "_law_stems_of" = some ⟨2, 1, lstemsofB⟩) (hg : ∀ d ∈ es, GoodE d) (hl : es.length ≤ 8) : callD tab wf (nn + 1) "_law_stems_of" [.tup es] g = .ok (.int (mkS es + 1), false) ⟨[], g⟩ := by
  rw [call_eq h rfl]
  have e := keys_lc (C := ⟨callD tab wf nn, wf⟩) (g := g) hg hl
  have kl : (keys es).length ≤ 8 := Nat.le_trans (List.length_filterMap_le _ _) hl
  have e2 : biD .max [.lst ([D.int 0] ++ (keys es).map .int)] = some (.int (mkS es), false) := by
    show (intsD ((0 :: keys es).map .int)).bind _ = _
    rw [ints_of]; rfl
  show finC (exs _ lstemsofB ⟨[some (.tup es, false), none], g⟩) = _
  simp only [lstemsofB, exs_cons, ex_ret_bin, ev_bin, ev_bi, evb_one, isV_bin, evb_n, evs_cons, evs_nil, ev_lst, ev_c, e, R.bind_ok, List.length_cons, List.length_nil, show 0 + 1 ≤ lim from by unfold lim; omega, if_true, b_addl, List.length_map]
  rw [if_pos (by unfold lim; omega)]
  simp only [rof_some, R.bind_ok, e2, b_add, nxK_ret, fin_ret]
def GoodT (d : D) : Prop := ∃ u, d = .str u ∧ 1 ≤ u.length ∧ u.length ≤ 8 ∧ ∀ z ∈ u, z ∈ abc
def needsB : List Q := [.if_ (.or_ (.not_ (.isi (.v 1) .tuple)) (.cmp .ne (.bi .len [.v 1]) (.call "stems_of" [.v 0]))) [.raise "BadStems" [.c (.str [110, 111, 116, 32, 97, 115, 32, 109, 97, 110, 121, 32, 115, 116, 101, 109, 115])]] [], .if_ (.not_ (.bi .all [.lc [2] (.nm 2) .val [.v 1] none (.call "is_run" [.v 2, .c (.int 1), .c (.int 8)])])) [.raise "BadStems" [.c (.str [110, 111, 32, 115, 116, 101, 109])]] []]
theorem needs_ok {tab : Str → Option Fn} {wf nn : Nat} {g : List Cell} {es sts : List D} (h : tab "need_stems" = some ⟨3, 2, needsB⟩) (hs : tab "stems_of" = some ⟨2, 1, stemsofB⟩) (hr : tab "is_run" = some ⟨4, 3, isrunB⟩) (hg : ∀ d ∈ es, GoodE d) (hl : es.length ≤ 8)
    (ht : ∀ d ∈ sts, GoodT d) (hn : (sts.length : Int) = mkS es + 1) : callD tab wf (nn + 2) "need_stems" [.tup es, .tup sts] g = .ok (.non, false) ⟨[], g⟩ := by
  rw [call_eq h rfl]
  have b := mk_bd hg
  have e1 := stemsof_ok (wf := wf) (nn := nn) (g := g) hs hg hl
  have e2 := lc_map (own := [2]) (bindx := fun d s => bindT (.nm 2) d false s) (cond := evc ⟨callD tab wf (nn + 1), wf⟩ none) (elt := fun s => ev ⟨callD tab wf (nn + 1), wf⟩ (.call "is_run" [.v 2, .c (.int 1), .c (.int 8)]) s) (s := ⟨[some (.tup es, false), some (.tup sts, false), none], g⟩) (fun _ => D.bl true) sts (by unfold lim; omega) (by
    intro d hd
    obtain ⟨u, rfl, u1, u2, u3⟩ := ht d hd
    have a := isrun_ok (wf := wf) (nn := nn) (g := g) (t := u) (lo := 1) (hi := 8) hr (by omega) (by omega) (by unfold lim; omega) fun z q => abc_let (u3 z q)
    exact ⟨⟨[some (.tup es, false), some (.tup sts, false), some (.str u, false)], g⟩, _, false, ⟨[some (.tup es, false), some (.tup sts, false), some (.str u, false)], g⟩, rfl, rfl, rfl, by simp [a], rfl⟩)
  have e3 := lc_run (C := ⟨callD tab wf (nn + 1), wf⟩) (own := [2]) (sk := .val) (sa := [.v 1]) (s := ⟨[some (.tup es, false), some (.tup sts, false), none], g⟩) (s1 := ⟨[some (.tup es, false), some (.tup sts, false), none], g⟩) (ds := [.tup sts]) rfl src_tup rfl e2
  have e4 : backS [2] (⟨[some (.tup es, false), some (.tup sts, false), none], g⟩ : S) ⟨[some (.tup es, false), some (.tup sts, false), none], g⟩ = ⟨[some (.tup es, false), some (.tup sts, false), none], g⟩ := rfl
  rw [e4] at e3
  show finC (exs _ needsB ⟨[some (.tup es, false), some (.tup sts, false), none], g⟩) = _
  simp [needsB, e1, e3, hn, bools_true]
def formD (sts : List D) : D → D
  | .tup [.int k, .str t] => match sts[k.toNat]? with
    | some (.str u) => .str (u ++ t)
    | _ => .non
  | _ => .non
def madeT (i : Nat) : T := .ife (.cmp .is (.v i) (.c .non)) (.c .non) (.bin .add (.ix (.v 1) (.ix (.v i) (.c (.int 0)))) (.ix (.v i) (.c (.int 1))))
theorem made_elt {C : Ctx} {i : Nat} {r : List (Option (D × Bool))} {g : List Cell} {es sts : List D} {d : D} (hg : ∀ d ∈ es, GoodE d) (hd : d ∈ es) (ht : ∀ d ∈ sts, GoodT d) (hn : (sts.length : Int) = mkS es + 1) (h1 : r[1]? = some (some (.tup sts, false))) (hi : r[i]? = some (some (d, false))) :
    ev C (madeT i) ⟨r, g⟩ = .ok (formD sts d, false) ⟨r, g⟩ := by
  have s1 := set_same _ _ _ h1
  have si := set_same _ _ _ hi
  rcases hg d hd with rfl | ⟨k, t, rfl, k1, k2, t1, t2⟩
  · simp [madeT, hi, formD]
  · have b := (mk_bd hg).2.2 k (.str t) hd
    have kn : k.toNat < sts.length := by omega
    obtain ⟨u, hu, u1, u2, u3⟩ := ht _ (List.getElem_mem kn)
    have e : sts[k.toNat]? = some (.str u) := by rw [List.getElem?_eq_getElem kn, hu]
    have ik : ixOf sts.length k = some k.toNat := ix_lt k1 (by omega)
    simp [madeT, hi, h1, formD, e, ik, show u.length + t.length ≤ lim from by unfold lim; omega]
def madeB : List Q := [.ret (.lc [2] (.nm 2) .val [.v 0] none (.ife (.cmp .is (.v 2) (.c .non)) (.c .non) (.bin .add (.ix (.v 1) (.ix (.v 2) (.c (.int 0)))) (.ix (.v 2) (.c (.int 1))))))]
theorem made_ok {tab : Str → Option Fn} {wf nn : Nat} {g : List Cell} {es sts : List D} (h : tab "made" = some ⟨3, 2, madeB⟩) (hg : ∀ d ∈ es, GoodE d) (hl : es.length ≤ 8) (ht : ∀ d ∈ sts, GoodT d) (hn : (sts.length : Int) = mkS es + 1) :
    callD tab wf (nn + 1) "made" [.tup es, .tup sts] g = .ok (.lst (es.map (formD sts)), true) ⟨[], g⟩ := by
  rw [call_eq h rfl]
  have e2 := lc_map (own := [2]) (bindx := fun d s => bindT (.nm 2) d false s) (cond := evc ⟨callD tab wf nn, wf⟩ none) (elt := fun s => ev ⟨callD tab wf nn, wf⟩ (madeT 2) s) (s := ⟨[some (.tup es, false), some (.tup sts, false), none], g⟩) (formD sts) es (by unfold lim; omega) (by
    intro d hd
    exact ⟨⟨[some (.tup es, false), some (.tup sts, false), some (d, false)], g⟩, _, false, ⟨[some (.tup es, false), some (.tup sts, false), some (d, false)], g⟩, rfl, rfl, rfl, made_elt hg hd ht hn rfl rfl, rfl⟩)
  have e3 := lc_run (C := ⟨callD tab wf nn, wf⟩) (own := [2]) (sk := .val) (sa := [.v 0]) (s := ⟨[some (.tup es, false), some (.tup sts, false), none], g⟩) (s1 := ⟨[some (.tup es, false), some (.tup sts, false), none], g⟩) (ds := [.tup es]) rfl src_tup rfl e2
  show finC (((ex _ (.ret (.lc [2] (.nm 2) .val [.v 0] none (madeT 2))) ⟨[some (.tup es, false), some (.tup sts, false), none], g⟩)).bind _) = _
  rw [ex_ret (fun i z => by cases z), e3]
  rfl
def lformsS : List Q := [.app 2 (.ife (.cmp .is (.v 3) (.c .non)) (.c .non) (.bin .add (.ix (.v 1) (.ix (.v 3) (.c (.int 0)))) (.ix (.v 3) (.c (.int 1)))))]
def lformsB : List Q := [.asg (.nm 2) (.lst []), .for_ (.nm 3) .val [.v 0] [.app 2 (.ife (.cmp .is (.v 3) (.c .non)) (.c .non) (.bin .add (.ix (.v 1) (.ix (.v 3) (.c (.int 0)))) (.ix (.v 3) (.c (.int 1)))))], .ret (.v 2)]
theorem lforms_ok {tab : Str → Option Fn} {wf nn : Nat} {g : List Cell} {es sts : List D} (h : tab "_law_forms" = some ⟨4, 2, lformsB⟩) (hg : ∀ d ∈ es, GoodE d) (hl : es.length ≤ 8) (ht : ∀ d ∈ sts, GoodT d) (hn : (sts.length : Int) = mkS es + 1) :
    callD tab wf (nn + 1) "_law_forms" [.tup es, .tup sts] g = .ok (.lst (es.map (formD sts)), true) ⟨[], g⟩ := by
  rw [call_eq h rfl]
  obtain ⟨s', e1, q, rfl, _⟩ := for_foldi (bindx := fun d s => bindT (.nm 3) d false s) (body := fun s => exs ⟨callD tab wf nn, wf⟩ lformsS s) 8 (id : D → D) (fun acc d => acc ++ [formD sts d]) (fun k acc s => ∃ q, s = ⟨[some (.tup es, false), some (.tup sts, false), some (.lst acc, true), q], g⟩ ∧ acc.length = k) es 0 [] ⟨[some (.tup es, false), some (.tup sts, false), some (.lst [], true), none], g⟩ (by omega) ⟨none, rfl, rfl⟩ (by
    rintro d hd k acc s hk ⟨q, rfl, ha⟩
    refine ⟨⟨[some (.tup es, false), some (.tup sts, false), some (.lst acc, true), some (d, false)], g⟩, ⟨[some (.tup es, false), some (.tup sts, false), some (.lst (acc ++ [formD sts d]), true), some (d, false)], g⟩, rfl, ?_, _, rfl, by rw [List.length_append, ha]; rfl⟩
    have ap := app_own (C := ⟨callD tab wf nn, wf⟩) (i := 2) (e := madeT 3) (r := [some (.tup es, false), some (.tup sts, false), some (.lst acc, true), some (d, false)]) (g := g) (xs := acc) rfl (made_elt hg hd ht hn rfl rfl) rfl (by unfold lim; omega)
    show (ex _ (.app 2 (madeT 3)) _).bind _ = _
    rw [ap]
    rfl)
  rw [List.map_id] at e1
  have ef : ∀ (l acc : List D), l.foldl (fun acc d => acc ++ [formD sts d]) acc = acc ++ l.map (formD sts) := by
    intro l
    induction l with
    | nil => intro acc; simp
    | cons a l ih => intro acc; rw [List.foldl_cons, ih]; simp
  rw [ef, List.nil_append] at e1
  have e2 := for_run (C := ⟨callD tab wf nn, wf⟩) (tg := .nm 3) (body := lformsS) (sk := .val) (sa := [.v 0]) (s := ⟨[some (.tup es, false), some (.tup sts, false), some (.lst [], true), none], g⟩) rfl src_tup e1
  have hsplit : lformsB = [.asg (.nm 2) (.lst []), .for_ (.nm 3) .val [.v 0] lformsS, .ret (.v 2)] := rfl
  show finC (exs _ lformsB ⟨[some (.tup es, false), some (.tup sts, false), none, none], g⟩) = _
  rw [hsplit]
  simp [e2]
def formsB : List Q := [.expr (.calld "need_pattern" [.v 0] [.non]), .expr (.call "need_stems" [.v 0, .v 1]), .ret (.call "made" [.v 0, .v 1])]
end Lm.Pl
set_option Elab.async false
set_option linter.all false
set_option maxRecDepth 100000
set_option maxHeartbeats 4000000
/-! k03: the law. -/
namespace Lm.Pl
open PySem
def patS : List Q := [.asg (.nm 8) (.tup [.call "_law_off" [.v 0, .v 2], .call "_law_text" [.v 0, .c (.int 0), .v 4, .v 3]]), .app 6 (.ife (.cmp .eq (.call "_law_off" [.v 0, .v 5]) (.c (.int 3))) (.c .non) (.v 8))]
def patB : List Q := [.asg (.nm 2) (.bin .add (.c (.int 1)) (.ix (.lst [.c (.int 0), .c (.int 0), .c (.int 1), .c (.int 2)]) (.call "_law_off" [.v 0, .c (.int 4)]))), .asg (.nm 3) (.ix (.lst [.c (.str [97, 98]), .c (.str [97, 98, 99]), .c (.str [97])]) (.call "_law_off" [.v 0, .c (.int 3)])), .asg (.nm 4) (.ix (.lst [.c (.int 1), .c (.int 2), .c (.int 2), .c (.int 6)]) (.call "_law_off" [.v 0, .c (.int 4)])), .asg (.nm 5) (.ix (.lst [.c (.int 99), .c (.int 9), .c (.int 4)]) (.call "_law_off" [.v 0, .c (.int 3)])), .asg (.nm 6) (.lst []), .for_ (.nm 7) .rng1 [.v 1] [.asg (.nm 8) (.tup [.call "_law_off" [.v 0, .v 2], .call "_law_text" [.v 0, .c (.int 0), .v 4, .v 3]]), .app 6 (.ife (.cmp .eq (.call "_law_off" [.v 0, .v 5]) (.c (.int 3))) (.c .non) (.v 8))], .ret (.bi .tuple [.v 6])]
def lstemsB : List Q := [.asg (.nm 2) (.ix (.lst [.c (.str [97, 98]), .c (.str [97, 98, 99])]) (.call "_law_off" [.v 0, .c (.int 2)])), .ret (.bi .tuple [.lc [3] (.nm 3) .rng1 [.call "_law_stems_of" [.v 1]] none (.call "_law_text" [.v 0, .c (.int 1), .ix (.lst [.c (.int 2), .c (.int 3), .c (.int 8)]) (.call "_law_off" [.v 0, .c (.int 3)]), .v 2])])]
structure TabP (tab : Str → Option Fn) : Prop where
  off : tab "_law_off" = some ⟨3, 2, offB⟩
  text : tab "_law_text" = some ⟨5, 4, textB⟩
  run : tab "is_run" = some ⟨4, 3, isrunB⟩
  num : tab "is_number" = some ⟨3, 3, isnumB⟩
  ent : tab "is_entry" = some ⟨1, 1, isentB⟩
  needp : tab "need_pattern" = some ⟨4, 2, needpB⟩
  stemsof : tab "stems_of" = some ⟨2, 1, stemsofB⟩
  needs : tab "need_stems" = some ⟨3, 2, needsB⟩
  made : tab "made" = some ⟨3, 2, madeB⟩
  forms : tab "forms" = some ⟨2, 2, formsB⟩
  dice : tab "_law_dice" = some ⟨4, 2, diceB⟩
  alike : tab "_law_alike" = some ⟨3, 2, alikeB⟩
  pat : tab "_law_pattern" = some ⟨9, 2, patB⟩
  lso : tab "_law_stems_of" = some ⟨2, 1, lstemsofB⟩
  ls : tab "_law_stems" = some ⟨4, 2, lstemsB⟩
  lf : tab "_law_forms" = some ⟨4, 2, lformsB⟩
theorem forms_ok {tab : Str → Option Fn} {wf nn : Nat} {g : List Cell} {es sts : List D} (T : TabP tab) (hg : ∀ d ∈ es, GoodE d) (h1 : 1 ≤ es.length) (hl : es.length ≤ 8) (ht : ∀ d ∈ sts, GoodT d) (hn : (sts.length : Int) = mkS es + 1) :
    callD tab wf (nn + 4) "forms" [.tup es, .tup sts] g = .ok (.lst (es.map (formD sts)), true) ⟨[], g⟩ := by
  rw [call_eq T.forms rfl]
  have e1 := needp_ok (wf := wf) (nn := nn) (g := g) T.needp T.ent T.num T.run hg h1 hl
  have e2 := needs_ok (wf := wf) (nn := nn + 1) (g := g) T.needs T.stemsof T.run hg hl ht hn
  have e3 := made_ok (wf := wf) (nn := nn + 2) (g := g) T.made hg hl ht hn
  show finC (exs _ formsB ⟨[some (.tup es, false), some (.tup sts, false)], g⟩) = _
  simp [formsB, e1, e2, e3]
def paSt (m u : Int) (sg : List Nat) (mo ga : Int) (es : List D) (q7 q8 : Option (D × Bool)) (c : List D) : S := ⟨[some (.obj 0, false), some (.int m, false), some (.int u, false), some (.str sg, false), some (.int mo, false), some (.int ga, false), some (.lst es, true), q7, q8], [.lst c]⟩
theorem pat_step {tab : Str → Option Fn} {wf nn : Nat} (T : TabP tab) {m u mo ga : Int} {sg : List Nat} {es : List D} {q7 q8 : Option (D × Bool)} {c : List D} (hc : Dice c) (hu : 1 ≤ u ∧ u ≤ 3) (hsg : sg ≠ [] ∧ sg.length ≤ 1000 ∧ ∀ z ∈ sg, z ∈ abc) (hmo : 0 ≤ mo ∧ mo ≤ 6) (hga : 1 ≤ ga ∧ ga ≤ 99) (hl : es.length ≤ 50) :
    ∃ (d : D) (q8' : Option (D × Bool)) (c' : List D), GoodE d ∧ Dice c' ∧ exs ⟨callD tab wf (nn + 3), wf⟩ patS (paSt m u sg mo ga es q7 q8 c) = .ok .nx (paSt m u sg mo ga (es ++ [d]) q7 q8' c') := by
  obtain ⟨k, c1, hc1, k1, k2, e1⟩ := off_ok (wf := wf) (n := nn + 2) (u := u) T.off hc (by omega) (by omega)
  obtain ⟨t, c2, hc2, t1, t2, t3, e2⟩ := text_ok (wf := wf) (n := nn + 1) (lo := 0) (hi := mo) (sg := sg) T.text T.off hc1 (by omega) hmo.1 (by omega) hsg.1 hsg.2.1
  obtain ⟨j, c3, hc3, j1, j2, e3⟩ := off_ok (wf := wf) (n := nn + 2) (u := ga) T.off hc2 (by omega) (by omega)
  have ap : ∀ d, ev ⟨callD tab wf (nn + 3), wf⟩ (.ife (.cmp .eq (.call "_law_off" [.v 0, .v 5]) (.c (.int 3))) (.c .non) (.v 8)) ⟨[some (.obj 0, false), some (.int m, false), some (.int u, false), some (.str sg, false), some (.int mo, false), some (.int ga, false), some (.lst es, true), q7, some (.tup [.int k, .str t], false)], [.lst c2]⟩ = .ok (d, false) ⟨[some (.obj 0, false), some (.int m, false), some (.int u, false), some (.str sg, false), some (.int mo, false), some (.int ga, false), some (.lst es, true), q7, some (.tup [.int k, .str t], false)], [.lst c3]⟩ → ex ⟨callD tab wf (nn + 3), wf⟩ (.app 6 (.ife (.cmp .eq (.call "_law_off" [.v 0, .v 5]) (.c (.int 3))) (.c .non) (.v 8))) ⟨[some (.obj 0, false), some (.int m, false), some (.int u, false), some (.str sg, false), some (.int mo, false), some (.int ga, false), some (.lst es, true), q7, some (.tup [.int k, .str t], false)], [.lst c2]⟩ = .ok .nx ⟨[some (.obj 0, false), some (.int m, false), some (.int u, false), some (.str sg, false), some (.int mo, false), some (.int ga, false), some (.lst (es ++ [d]), true), q7, some (.tup [.int k, .str t], false)], [.lst c3]⟩ := fun d h =>
    app_own (xs := es) rfl h rfl (by unfold lim; omega)
  have fst : ∀ st, ex ⟨callD tab wf (nn + 3), wf⟩ (.app 6 (.ife (.cmp .eq (.call "_law_off" [.v 0, .v 5]) (.c (.int 3))) (.c .non) (.v 8))) ⟨[some (.obj 0, false), some (.int m, false), some (.int u, false), some (.str sg, false), some (.int mo, false), some (.int ga, false), some (.lst es, true), q7, some (.tup [.int k, .str t], false)], [.lst c2]⟩ = .ok .nx st → exs ⟨callD tab wf (nn + 3), wf⟩ patS (paSt m u sg mo ga es q7 q8 c) = .ok .nx st := fun st h => by
    simp only [patS, paSt, exs_cons, exs_nil, ex_asg, R.bind_ok, bt_nm, wr_mk, List.set_cons_zero, List.set_cons_succ, nxK_nx, ev_tup, evs_cons, evs_nil, ev_call, ev_v, ev_c, rd_mk, rdO_s, List.getElem?_cons_zero, List.getElem?_cons_succ, e1, e2, callR_ok, List.length_cons, List.length_nil, show 0 + 1 + 1 ≤ lim from by unfold lim; omega, if_true, h]
  by_cases j3 : j = 3
  · refine ⟨.non, some (.tup [.int k, .str t], false), c3, .inl rfl, hc3, fst _ (ap .non ?_)⟩
    simp [e3, j3]
  · refine ⟨.tup [.int k, .str t], some (.tup [.int k, .str t], false), c3, .inr ⟨k, t, rfl, k1, by omega, by omega, fun z q => hsg.2.2 z (t3 z q)⟩, hc3, fst _ (ap (.tup [.int k, .str t]) ?_)⟩
    simp [e3, j3]
theorem pat_ok {tab : Str → Option Fn} {wf nn : Nat} (T : TabP tab) {m : Int} {c : List D} (hc : Dice c) (m1 : 1 ≤ m) (m2 : m ≤ 8) : ∃ (es : List D) (c' : List D), Dice c' ∧ 1 ≤ es.length ∧ es.length ≤ 8 ∧ (∀ d ∈ es, GoodE d) ∧ callD tab wf (nn + 4) "_law_pattern" [.obj 0, .int m] [.lst c] = .ok (.tup es, false) ⟨[], [.lst c']⟩ := by
  rw [call_eq T.pat rfl]
  obtain ⟨u0, hu, c1, hc1, e1⟩ := pick_ok (wf := wf) (n := nn + 2) (i := 0) (r := [some (.obj 0, false), some (.int m, false), none, none, none, none, none, none, none]) D.int [0, 0, 1, 2] T.off (by decide) (by decide) rfl hc
  have e1 : ev ⟨callD tab wf (nn + 3), wf⟩ (.ix (.lst [.c (.int 0), .c (.int 0), .c (.int 1), .c (.int 2)]) (.call "_law_off" [.v 0, .c (.int 4)])) ⟨[some (.obj 0, false), some (.int m, false), none, none, none, none, none, none, none], [.lst c]⟩ = _ := e1
  obtain ⟨sg, hsg, c2, hc2, e2⟩ := pick_ok (wf := wf) (n := nn + 2) (i := 0) (r := [some (.obj 0, false), some (.int m, false), some (.int (1 + u0), false), none, none, none, none, none, none]) D.str [[97, 98], [97, 98, 99], [97]] T.off (by decide) (by decide) rfl hc1
  have e2 : ev ⟨callD tab wf (nn + 3), wf⟩ (.ix (.lst [.c (.str [97, 98]), .c (.str [97, 98, 99]), .c (.str [97])]) (.call "_law_off" [.v 0, .c (.int 3)])) ⟨[some (.obj 0, false), some (.int m, false), some (.int (1 + u0), false), none, none, none, none, none, none], [.lst c1]⟩ = _ := e2
  obtain ⟨mo, hmo, c3, hc3, e3⟩ := pick_ok (wf := wf) (n := nn + 2) (i := 0) (r := [some (.obj 0, false), some (.int m, false), some (.int (1 + u0), false), some (.str sg, false), none, none, none, none, none]) D.int [1, 2, 2, 6] T.off (by decide) (by decide) rfl hc2
  have e3 : ev ⟨callD tab wf (nn + 3), wf⟩ (.ix (.lst [.c (.int 1), .c (.int 2), .c (.int 2), .c (.int 6)]) (.call "_law_off" [.v 0, .c (.int 4)])) ⟨[some (.obj 0, false), some (.int m, false), some (.int (1 + u0), false), some (.str sg, false), none, none, none, none, none], [.lst c2]⟩ = _ := e3
  obtain ⟨ga, hga, c4, hc4, e4⟩ := pick_ok (wf := wf) (n := nn + 2) (i := 0) (r := [some (.obj 0, false), some (.int m, false), some (.int (1 + u0), false), some (.str sg, false), some (.int mo, false), none, none, none, none]) D.int [99, 9, 4] T.off (by decide) (by decide) rfl hc3
  have e4 : ev ⟨callD tab wf (nn + 3), wf⟩ (.ix (.lst [.c (.int 99), .c (.int 9), .c (.int 4)]) (.call "_law_off" [.v 0, .c (.int 3)])) ⟨[some (.obj 0, false), some (.int m, false), some (.int (1 + u0), false), some (.str sg, false), some (.int mo, false), none, none, none, none], [.lst c3]⟩ = _ := e4
  have hu2 : 1 ≤ 1 + u0 ∧ 1 + u0 ≤ 3 := by
    simp only [List.mem_cons, List.not_mem_nil, or_false] at hu
    omega
  have hsg2 : sg ≠ [] ∧ sg.length ≤ 1000 ∧ ∀ z ∈ sg, z ∈ abc := by
    simp only [List.mem_cons, List.not_mem_nil, or_false] at hsg
    rcases hsg with rfl | rfl | rfl <;> decide
  have hmo2 : 0 ≤ mo ∧ mo ≤ 6 := by
    simp only [List.mem_cons, List.not_mem_nil, or_false] at hmo
    omega
  have hga2 : 1 ≤ ga ∧ ga ≤ 99 := by
    simp only [List.mem_cons, List.not_mem_nil, or_false] at hga
    omega
  obtain ⟨s', e5, es, q7, q8, c5, rfl, hc5, hs, hl⟩ := for_invi (bindx := fun d s => bindT (.nm 7) d false s) (body := fun s => exs ⟨callD tab wf (nn + 3), wf⟩ patS s) 8 (fun i s => ∃ es q7 q8 c, s = paSt m (1 + u0) sg mo ga es q7 q8 c ∧ Dice c ∧ (∀ d ∈ es, GoodE d) ∧ es.length = i) (rangeD 0 m) 0 (paSt m (1 + u0) sg mo ga [] none none c4) (by rw [range_len]; omega) ⟨[], none, none, c4, rfl, hc4, fun _ q => (by cases q), rfl⟩ (by
    rintro x hx i s hi ⟨es, q7, q8, c, rfl, hc, hs, hl⟩
    obtain ⟨d, q8', c', hd, hc', e⟩ := pat_step (wf := wf) (nn := nn) T (m := m) (q7 := some (x, false)) (q8 := q8) hc hu2 hsg2 hmo2 hga2 (es := es) (by omega)
    refine ⟨paSt m (1 + u0) sg mo ga es (some (x, false)) q8 c, _, rfl, e, es ++ [d], _, _, _, rfl, hc', fun y q => ?_, by rw [List.length_append, hl]; rfl⟩
    rcases List.mem_append.mp q with q | q
    · exact hs y q
    · rw [List.mem_singleton.mp q]; exact hd)
  rw [range_len] at hl
  have e6 := for_run (C := ⟨callD tab wf (nn + 3), wf⟩) (tg := .nm 7) (body := patS) (sk := .rng1) (sa := [.v 1]) (s := paSt m (1 + u0) sg mo ga [] none none c4) (s1 := paSt m (1 + u0) sg mo ga [] none none c4) (ds := [.int m]) rfl (by rw [src_r1, if_pos (by omega)]) e5
  refine ⟨es, c5, hc5, by omega, by omega, hs, ?_⟩
  have hsplit : patB = [.asg (.nm 2) (.bin .add (.c (.int 1)) (.ix (.lst [.c (.int 0), .c (.int 0), .c (.int 1), .c (.int 2)]) (.call "_law_off" [.v 0, .c (.int 4)]))), .asg (.nm 3) (.ix (.lst [.c (.str [97, 98]), .c (.str [97, 98, 99]), .c (.str [97])]) (.call "_law_off" [.v 0, .c (.int 3)])), .asg (.nm 4) (.ix (.lst [.c (.int 1), .c (.int 2), .c (.int 2), .c (.int 6)]) (.call "_law_off" [.v 0, .c (.int 4)])), .asg (.nm 5) (.ix (.lst [.c (.int 99), .c (.int 9), .c (.int 4)]) (.call "_law_off" [.v 0, .c (.int 3)])), .asg (.nm 6) (.lst []), .for_ (.nm 7) .rng1 [.v 1] patS, .ret (.bi .tuple [.v 6])] := rfl
  unfold paSt at e6
  show finC (exs _ patB ⟨[some (.obj 0, false), some (.int m, false), none, none, none, none, none, none, none], [.lst c]⟩) = _
  rw [hsplit]
  simp only [exs_cons, ex_asg, ev_bin, ev_c, e1, e2, e3, e4, b_add, rof_some, ev_lst, evs_nil, R.bind_ok, List.length_nil, Nat.zero_le, if_true, bt_nm, wr_mk, List.set_cons_zero, List.set_cons_succ, nxK_nx, e6, ex_ret_bi, ev_bi, evb_one, isV_v, evb_1, look_mk, List.getElem?_cons_zero, List.getElem?_cons_succ, lookO_lst, l_tuple, nxK_ret, fin_ret]
theorem lstems_ok {tab : Str → Option Fn} {wf nn : Nat} (T : TabP tab) {es : List D} {c : List D} (hc : Dice c) (hg : ∀ d ∈ es, GoodE d) (hl : es.length ≤ 8) : ∃ (sts : List D) (c' : List D), Dice c' ∧ (∀ d ∈ sts, GoodT d) ∧ (sts.length : Int) = mkS es + 1 ∧ callD tab wf (nn + 4) "_law_stems" [.obj 0, .tup es] [.lst c] = .ok (.tup sts, false) ⟨[], [.lst c']⟩ := by
  rw [call_eq T.ls rfl]
  have b := mk_bd hg
  obtain ⟨sg, hsg, c1, hc1, e1⟩ := pick_ok (wf := wf) (n := nn + 2) (i := 0) (r := [some (.obj 0, false), some (.tup es, false), none, none]) D.str [[97, 98], [97, 98, 99]] T.off (by decide) (by decide) rfl hc
  have e1 : ev ⟨callD tab wf (nn + 3), wf⟩ (.ix (.lst [.c (.str [97, 98]), .c (.str [97, 98, 99])]) (.call "_law_off" [.v 0, .c (.int 2)])) ⟨[some (.obj 0, false), some (.tup es, false), none, none], [.lst c]⟩ = _ := e1
  have hsg2 : sg ≠ [] ∧ sg.length ≤ 1000 ∧ ∀ z ∈ sg, z ∈ abc := by
    simp only [List.mem_cons, List.not_mem_nil, or_false] at hsg
    rcases hsg with rfl | rfl <;> decide
  have e2 := lstemsof_ok (wf := wf) (nn := nn + 2) (g := [.lst c1]) T.lso hg hl
  obtain ⟨ys, s', e3, e4, e5, c2, hc2, rfl⟩ := lc_inv (own := [3]) (bindx := fun d s => bindT (.nm 3) d false s) (cond := evc ⟨callD tab wf (nn + 3), wf⟩ none) (elt := fun s => ev ⟨callD tab wf (nn + 3), wf⟩ (.call "_law_text" [.v 0, .c (.int 1), .ix (.lst [.c (.int 2), .c (.int 3), .c (.int 8)]) (.call "_law_off" [.v 0, .c (.int 3)]), .v 2]) s)
    (fun s => ∃ c, Dice c ∧ s = ⟨[some (.obj 0, false), some (.tup es, false), some (.str sg, false), none], [.lst c]⟩) GoodT (rangeD 0 (mkS es + 1)) [] ⟨[some (.obj 0, false), some (.tup es, false), some (.str sg, false), none], [.lst c1]⟩ ⟨c1, hc1, rfl⟩ (by simp; unfold lim; omega) (by
      rintro x hx s ⟨c, hc, rfl⟩
      obtain ⟨hi, hhi, c2, hc2, f1⟩ := pick_ok (wf := wf) (n := nn + 2) (i := 0) (r := [some (.obj 0, false), some (.tup es, false), some (.str sg, false), some (x, false)]) D.int [2, 3, 8] T.off (by decide) (by decide) rfl hc
      have f1 : ev ⟨callD tab wf (nn + 3), wf⟩ (.ix (.lst [.c (.int 2), .c (.int 3), .c (.int 8)]) (.call "_law_off" [.v 0, .c (.int 3)])) ⟨[some (.obj 0, false), some (.tup es, false), some (.str sg, false), some (x, false)], [.lst c]⟩ = _ := f1
      have h8 : 2 ≤ hi ∧ hi ≤ 8 := by
        simp only [List.mem_cons, List.not_mem_nil, or_false] at hhi
        omega
      obtain ⟨t, c3, hc3, t1, t2, t3, f2⟩ := text_ok (wf := wf) (n := nn + 1) (lo := 1) (hi := hi) (sg := sg) T.text T.off hc2 (by decide) (by omega) (by omega) hsg2.1 hsg2.2.1
      refine ⟨⟨[some (.obj 0, false), some (.tup es, false), some (.str sg, false), some (x, false)], [.lst c]⟩, _, (.str t, false), ⟨[some (.obj 0, false), some (.tup es, false), some (.str sg, false), some (x, false)], [.lst c3]⟩, rfl, rfl, ?_, ⟨t, rfl, by omega, by omega, fun z q => hsg2.2.2 z (t3 z q)⟩, c3, hc3, rfl⟩
      simp only [ev_call, evs_cons, evs_nil, ev_v, ev_c, rd_mk, rdO_s, List.getElem?_cons_zero, List.getElem?_cons_succ, R.bind_ok, wr_mk, List.set_cons_zero, List.set_cons_succ, f1, f2, callR_ok])
  have e6 := lc_run (C := ⟨callD tab wf (nn + 3), wf⟩) (own := [3]) (sk := .rng1) (sa := [.call "_law_stems_of" [.v 1]]) (s := ⟨[some (.obj 0, false), some (.tup es, false), some (.str sg, false), none], [.lst c1]⟩) (ds := [.int (mkS es + 1)]) (s1 := ⟨[some (.obj 0, false), some (.tup es, false), some (.str sg, false), none], [.lst c1]⟩) (by simp [e2]) (by rw [src_r1, if_pos (by omega)]) rfl e3
  rw [range_len] at e4
  refine ⟨ys, c2, hc2, e5, by omega, ?_⟩
  show finC (exs _ lstemsB ⟨[some (.obj 0, false), some (.tup es, false), none, none], [.lst c]⟩) = _
  simp only [lstemsB, exs_cons, ex_asg, e1, R.bind_ok, bt_nm, wr_mk, List.set_cons_zero, List.set_cons_succ, nxK_nx, ex_ret_bi, ev_bi, evb_one, isV_lc, evb_n, evs_cons, evs_nil, e6, l_tuple, rof_some, nxK_ret, fin_ret, List.nil_append]
  rfl
end Lm.Pl
set_option Elab.async false
set_option linter.all false
set_option maxRecDepth 100000
set_option maxHeartbeats 4000000
/-! k03: the law, joined. -/
namespace Lm.Pl
open PySem
theorem cel_ok {C : Ctx} {i : Nat} {e : T} {r r' : List (Option (D × Bool))} {g g' : List Cell} {c : List D} (h : ev C e ⟨r, g⟩ = .ok (.lst c, true) ⟨r', g'⟩) : ex C (.cel i e) ⟨r, g⟩ = .ok .nx ⟨r'.set i (some (.obj g'.length, false)), g' ++ [.lst c]⟩ := by
  show (ev C e ⟨r, g⟩).bind _ = _
  rw [h]
  rfl
def in3S : List Q := [.asg (.nm 6) (.call "forms" [.v 3, .v 4]), .if_ (.not_ (.callc "_law_alike" 6 (.call "_law_forms" [.v 3, .v 4]))) [.ret (.c (.bl false))] [], .clr 6]
def out3S : List Q := [.asg (.nm 3) (.call "_law_pattern" [.v 1, .bin .add (.c (.int 1)) (.call "_law_off" [.v 1, .c (.int 8)])]), .asg (.nm 4) (.call "_law_stems" [.v 1, .v 3]), .for_ (.nm 5) .rng1 [.c (.int 2)] in3S]
def law3B : List Q := [.cel 1 (.call "_law_dice" [.v 0, .c (.int 0)]), .for_ (.nm 2) .rng1 [.c (.int 8)] out3S, .ret (.c (.bl true))]
def l3St (ns : List Int) (q2 q3 q4 q5 q6 : Option (D × Bool)) (c : List D) : S := ⟨[some (.scr ns, false), some (.obj 0, false), q2, q3, q4, q5, q6], [.lst c]⟩
theorem in3_step {tab : Str → Option Fn} {wf nn : Nat} (T : TabP tab) {ns : List Int} {q2 q5 q6 : Option (D × Bool)} {c es sts : List D} (hc : Dice c) (hg : ∀ d ∈ es, GoodE d) (h1 : 1 ≤ es.length) (hl : es.length ≤ 8) (ht : ∀ d ∈ sts, GoodT d) (hn : (sts.length : Int) = mkS es + 1) :
    exs ⟨callD tab wf (nn + 4), wf⟩ in3S (l3St ns q2 (some (.tup es, false)) (some (.tup sts, false)) q5 q6 c) = .ok .nx (l3St ns q2 (some (.tup es, false)) (some (.tup sts, false)) q5 (some (.lst [], true)) c) := by
  have e1 := forms_ok (wf := wf) (nn := nn) (g := [.lst c]) T hg h1 hl ht hn
  have e2 := lforms_ok (wf := wf) (nn := nn + 3) (g := [.lst c]) T.lf hg hl ht hn
  have ok : Okd 1 (.lst (es.map (formD sts))) := by
    refine ⟨by rw [List.length_map]; omega, fun d hd => ?_⟩
    obtain ⟨x, hx, rfl⟩ := List.mem_map.mp hd
    unfold formD
    split
    · split <;> exact trivial
    · exact trivial
  have e3 := alike_refl (wf := wf) (n := nn + 2) (g := [.lst c]) T.alike 1 _ ok
  have e3 : callD tab wf (nn + 4) "_law_alike" [.lst (es.map (formD sts)), .lst (es.map (formD sts))] [.lst c] = _ := e3
  have hf := dice_flat hc
  have e4 := clr_own (C := ⟨callD tab wf (nn + 4), wf⟩) (i := 6) (r := [some (.scr ns, false), some (.obj 0, false), q2, some (.tup es, false), some (.tup sts, false), q5, some (.lst (es.map (formD sts)), true)]) (g := [.lst c]) rfl
  simp only [in3S, l3St, exs_cons, exs_nil, ex_asg, R.bind_ok, bt_nm, wr_mk, List.set_cons_zero, List.set_cons_succ, nxK_nx, ev_call, evs_cons, evs_nil, ev_v, ev_c, rd_mk, rdO_s, List.getElem?_cons_zero, List.getElem?_cons_succ, e1, e2, callR_ok, ex_if, ev_not, ev_callc, e3, callbR_ok, hf, flat, Bool.and_self, if_true, asB_bl, rof_some, Bool.not_true, Bool.false_eq_true, if_false, e4]
theorem out3_step {tab : Str → Option Fn} {wf nn : Nat} (T : TabP tab) {ns : List Int} {q2 q3 q4 q5 q6 : Option (D × Bool)} {c : List D} (hc : Dice c) : ∃ (q3' q4' q5' q6' : Option (D × Bool)) (c' : List D), Dice c' ∧ exs ⟨callD tab wf (nn + 4), wf⟩ out3S (l3St ns q2 q3 q4 q5 q6 c) = .ok .nx (l3St ns q2 q3' q4' q5' q6' c') := by
  obtain ⟨m, c1, hc1, m1, m2, e1⟩ := off_ok (wf := wf) (n := nn + 3) (u := 8) T.off hc (by decide) (by decide)
  obtain ⟨es, c2, hc2, h1, hl, hg, e2⟩ := pat_ok (wf := wf) (nn := nn) T (m := 1 + m) hc1 (by omega) (by omega)
  obtain ⟨sts, c3, hc3, ht, hn, e3⟩ := lstems_ok (wf := wf) (nn := nn) T hc2 hg hl
  obtain ⟨s', e4, q5', q6', rfl⟩ := for_inv (bindx := fun d s => bindT (.nm 5) d false s) (body := fun s => exs ⟨callD tab wf (nn + 4), wf⟩ in3S s) (fun s => ∃ q5 q6, s = l3St ns q2 (some (.tup es, false)) (some (.tup sts, false)) q5 q6 c3) (rangeD 0 2) (l3St ns q2 (some (.tup es, false)) (some (.tup sts, false)) q5 q6 c3) ⟨q5, q6, rfl⟩ (by
    rintro x hx s ⟨q5, q6, rfl⟩
    exact ⟨l3St ns q2 (some (.tup es, false)) (some (.tup sts, false)) (some (x, false)) q6 c3, _, rfl, in3_step (wf := wf) (nn := nn) T (ns := ns) (q2 := q2) (q5 := some (x, false)) (q6 := q6) hc3 hg h1 hl ht hn, _, _, rfl⟩)
  have e5 := for_run (C := ⟨callD tab wf (nn + 4), wf⟩) (tg := .nm 5) (body := in3S) (sk := .rng1) (sa := [.c (.int 2)]) (s := l3St ns q2 (some (.tup es, false)) (some (.tup sts, false)) q5 q6 c3) (s1 := l3St ns q2 (some (.tup es, false)) (some (.tup sts, false)) q5 q6 c3) (ds := [.int 2]) rfl (by rw [src_r1, if_pos (by decide)]) e4
  refine ⟨some (.tup es, false), some (.tup sts, false), q5', q6', c3, hc3, ?_⟩
  unfold l3St at e5
  simp only [out3S, l3St, exs_cons, exs_nil, ex_asg, R.bind_ok, bt_nm, wr_mk, List.set_cons_zero, List.set_cons_succ, nxK_nx, ev_call, ev_bin, evs_cons, evs_nil, ev_v, ev_c, rd_mk, rdO_s, List.getElem?_cons_zero, List.getElem?_cons_succ, e1, b_add, rof_some, e2, e3, callR_ok, e5]
theorem law3_is {tab : Str → Option Fn} {wf nn : Nat} (T : TabP tab) (h : tab "law" = some ⟨7, 1, law3B⟩) {ns : List Int} (hn : ns.length ≤ 63) : ∃ s, callD tab wf (nn + 5) "law" [.scr ns] [] = .ok (.bl true, false) s := by
  rw [call_eq h rfl]
  obtain ⟨c, hc, e1⟩ := dice_ok (wf := wf) (n := nn + 3) (k := 0) (ns := ns) (g := []) T.dice hn
  have e2 := cel_ok (C := ⟨callD tab wf (nn + 4), wf⟩) (i := 1) (e := .call "_law_dice" [.v 0, .c (.int 0)]) (r := [some (.scr ns, false), none, none, none, none, none, none]) (g := []) (r' := [some (.scr ns, false), none, none, none, none, none, none]) (g' := []) (c := c) (by simp [e1])
  obtain ⟨s', e3, q2, q3, q4, q5, q6, c', rfl, hc'⟩ := for_inv (bindx := fun d s => bindT (.nm 2) d false s) (body := fun s => exs ⟨callD tab wf (nn + 4), wf⟩ out3S s) (fun s => ∃ q2 q3 q4 q5 q6 c, s = l3St ns q2 q3 q4 q5 q6 c ∧ Dice c) (rangeD 0 8) (l3St ns none none none none none c) ⟨none, none, none, none, none, c, rfl, hc⟩ (by
    rintro x hx s ⟨q2, q3, q4, q5, q6, c, rfl, hc⟩
    obtain ⟨q3', q4', q5', q6', c', hc', e⟩ := out3_step (wf := wf) (nn := nn) T (ns := ns) (q2 := some (x, false)) (q3 := q3) (q4 := q4) (q5 := q5) (q6 := q6) hc
    exact ⟨l3St ns (some (x, false)) q3 q4 q5 q6 c, _, rfl, e, _, _, _, _, _, _, rfl, hc'⟩)
  have e4 := for_run (C := ⟨callD tab wf (nn + 4), wf⟩) (tg := .nm 2) (body := out3S) (sk := .rng1) (sa := [.c (.int 8)]) (s := l3St ns none none none none none c) (s1 := l3St ns none none none none none c) (ds := [.int 8]) rfl (by rw [src_r1, if_pos (by decide)]) e3
  refine ⟨⟨[], [.lst c']⟩, ?_⟩
  unfold l3St at e4
  have e2 : ex ⟨callD tab wf (nn + 4), wf⟩ (.cel 1 (.call "_law_dice" [.v 0, .c (.int 0)])) ⟨[some (.scr ns, false), none, none, none, none, none, none], []⟩ = .ok .nx ⟨[some (.scr ns, false), some (.obj 0, false), none, none, none, none, none], [.lst c]⟩ := e2
  show finC (exs _ law3B ⟨[some (.scr ns, false), none, none, none, none, none, none], []⟩) = _
  simp only [law3B, exs_cons, e2, R.bind_ok, nxK_nx, e4, ex_ret_c, nxK_ret, fin_ret]
theorem law_pure : ∀ ns : List Int, ns.length ≤ 63 → ∃ s, callD (tab ents) WF DP "law" [.scr ns] [] = .ok (.bl true, false) s := fun ns hn =>
  law3_is (tab := tab ents) (wf := WF) (nn := 55) ⟨rfl, rfl, rfl, rfl, rfl, rfl, rfl, rfl, rfl, rfl, rfl, rfl, rfl, rfl, rfl, rfl⟩ rfl hn
end Lm.Pl
namespace Lm
open PySem L2
section
theorem all_mk {l : PySem.W.OpenLaw} {w : World} {K : PySem.W.Frag} {h : Heap} {mg : Str → Option Value} {fa f1 f2 f3 f4 f5 f6 f7 f8 f9 f10 f11 f12 f13 f14 f15 f16 f17 : Addr} (X : K.In h) (G : h.Ns mainGlobals mg) (hfa : mg "law" = some (.ref fa))
    {od1 od2 od3 od4 od5 od6 od7 od8 od9 od10 od11 od12 od13 od14 od15 od16 od17 an1 an2 an3 an4 an5 an6 an7 an8 an9 an10 an11 an12 an13 an14 an15 an16 an17 : Option Addr} {sl1 sl2 sl3 sl4 sl5 sl6 sl7 sl8 sl9 sl10 sl11 sl12 sl13 sl14 sl15 sl16 sl17 : Array (Option Value)} {oc1 kV1 dc1 pm1 cd1 ct1 oc2 kV2 dc2 pm2 cd2 ct2 oc3 kV3 dc3 pm3 cd3 ct3 oc4 kV4 dc4 pm4 cd4 ct4 oc5 kV5 dc5 pm5 cd5 ct5 oc6 kV6 dc6 pm6 cd6 ct6 oc7 kV7 dc7 pm7 cd7 ct7 oc8 kV8 dc8 pm8 cd8 ct8 oc9 kV9 dc9 pm9 cd9 ct9 oc10 kV10 dc10 pm10 cd10 ct10 oc11 kV11 dc11 pm11 cd11 ct11 oc12 kV12 dc12 pm12 cd12 ct12 oc13 kV13 dc13 pm13 cd13 ct13 oc14 kV14 dc14 pm14 cd14 ct14 oc15 kV15 dc15 pm15 cd15 ct15 oc16 kV16 dc16 pm16 cd16 ct16 oc17 kV17 dc17 pm17 cd17 ct17 : Value}
    (a1 : PySem.W.nsIn K mainGlobals "is_number" = some (some (.ref f1))) (l1 : K.lookup f1 = some ⟨oc1, od1, .func (PySem.W.fnOf "is_number" "is_number" (defArgs (topS 10)) (defBody (topS 10)) (defScope (topS 10)) .none kV1 dc1 pm1 an1 cd1 ct1), sl1⟩) (c1 : PySem.W.codeIn K cd1 "is_number" = true) (k1 : PySem.W.keepIn K (.ref f1) = true)
    (a2 : PySem.W.nsIn K mainGlobals "is_run" = some (some (.ref f2))) (l2 : K.lookup f2 = some ⟨oc2, od2, .func (PySem.W.fnOf "is_run" "is_run" (defArgs (topS 11)) (defBody (topS 11)) (defScope (topS 11)) .none kV2 dc2 pm2 an2 cd2 ct2), sl2⟩) (c2 : PySem.W.codeIn K cd2 "is_run" = true) (k2 : PySem.W.keepIn K (.ref f2) = true)
    (a3 : PySem.W.nsIn K mainGlobals "is_entry" = some (some (.ref f3))) (l3 : K.lookup f3 = some ⟨oc3, od3, .func (PySem.W.fnOf "is_entry" "is_entry" (defArgs (topS 12)) (defBody (topS 12)) (defScope (topS 12)) .none kV3 dc3 pm3 an3 cd3 ct3), sl3⟩) (c3 : PySem.W.codeIn K cd3 "is_entry" = true) (k3 : PySem.W.keepIn K (.ref f3) = true)
    {T4 : Addr}
    (a4 : PySem.W.nsIn K mainGlobals "need_pattern" = some (some (.ref f4))) (l4 : K.lookup f4 = some ⟨oc4, od4, .func (PySem.W.fnOf "need_pattern" "need_pattern" (defArgs (topS 13)) (defBody (topS 13)) (defScope (topS 13)) (.ref T4) kV4 dc4 pm4 an4 cd4 ct4), sl4⟩) (c4 : PySem.W.codeIn K cd4 "need_pattern" = true) (k4 : PySem.W.keepIn K (.ref f4) = true)
    {oT4 : Value} {dT4 : Option Addr} {nT4 : Nat} {sT4 : Array (Option Value)} (d4 : K.lookup T4 = some ⟨oT4, dT4, .seq #[.none] nT4, sT4⟩)
    (a5 : PySem.W.nsIn K mainGlobals "stems_of" = some (some (.ref f5))) (l5 : K.lookup f5 = some ⟨oc5, od5, .func (PySem.W.fnOf "stems_of" "stems_of" (defArgs (topS 14)) (defBody (topS 14)) (defScope (topS 14)) .none kV5 dc5 pm5 an5 cd5 ct5), sl5⟩) (c5 : PySem.W.codeIn K cd5 "stems_of" = true) (k5 : PySem.W.keepIn K (.ref f5) = true)
    (a6 : PySem.W.nsIn K mainGlobals "need_stems" = some (some (.ref f6))) (l6 : K.lookup f6 = some ⟨oc6, od6, .func (PySem.W.fnOf "need_stems" "need_stems" (defArgs (topS 15)) (defBody (topS 15)) (defScope (topS 15)) .none kV6 dc6 pm6 an6 cd6 ct6), sl6⟩) (c6 : PySem.W.codeIn K cd6 "need_stems" = true) (k6 : PySem.W.keepIn K (.ref f6) = true)
    (a7 : PySem.W.nsIn K mainGlobals "made" = some (some (.ref f7))) (l7 : K.lookup f7 = some ⟨oc7, od7, .func (PySem.W.fnOf "made" "made" (defArgs (topS 16)) (defBody (topS 16)) (defScope (topS 16)) .none kV7 dc7 pm7 an7 cd7 ct7), sl7⟩) (c7 : PySem.W.codeIn K cd7 "made" = true) (k7 : PySem.W.keepIn K (.ref f7) = true)
    (a8 : PySem.W.nsIn K mainGlobals "forms" = some (some (.ref f8))) (l8 : K.lookup f8 = some ⟨oc8, od8, .func (PySem.W.fnOf "forms" "forms" (defArgs (topS 17)) (defBody (topS 17)) (defScope (topS 17)) .none kV8 dc8 pm8 an8 cd8 ct8), sl8⟩) (c8 : PySem.W.codeIn K cd8 "forms" = true) (k8 : PySem.W.keepIn K (.ref f8) = true)
    (a9 : PySem.W.nsIn K mainGlobals "_law_dice" = some (some (.ref f9))) (l9 : K.lookup f9 = some ⟨oc9, od9, .func (PySem.W.fnOf "_law_dice" "_law_dice" (defArgs (topS 19)) (defBody (topS 19)) (defScope (topS 19)) .none kV9 dc9 pm9 an9 cd9 ct9), sl9⟩) (c9 : PySem.W.codeIn K cd9 "_law_dice" = true) (k9 : PySem.W.keepIn K (.ref f9) = true)
    (a10 : PySem.W.nsIn K mainGlobals "_law_off" = some (some (.ref f10))) (l10 : K.lookup f10 = some ⟨oc10, od10, .func (PySem.W.fnOf "_law_off" "_law_off" (defArgs (topS 20)) (defBody (topS 20)) (defScope (topS 20)) .none kV10 dc10 pm10 an10 cd10 ct10), sl10⟩) (c10 : PySem.W.codeIn K cd10 "_law_off" = true) (k10 : PySem.W.keepIn K (.ref f10) = true)
    (a11 : PySem.W.nsIn K mainGlobals "_law_alike" = some (some (.ref f11))) (l11 : K.lookup f11 = some ⟨oc11, od11, .func (PySem.W.fnOf "_law_alike" "_law_alike" (defArgs (topS 21)) (defBody (topS 21)) (defScope (topS 21)) .none kV11 dc11 pm11 an11 cd11 ct11), sl11⟩) (c11 : PySem.W.codeIn K cd11 "_law_alike" = true) (k11 : PySem.W.keepIn K (.ref f11) = true)
    (a12 : PySem.W.nsIn K mainGlobals "_law_text" = some (some (.ref f12))) (l12 : K.lookup f12 = some ⟨oc12, od12, .func (PySem.W.fnOf "_law_text" "_law_text" (defArgs (topS 22)) (defBody (topS 22)) (defScope (topS 22)) .none kV12 dc12 pm12 an12 cd12 ct12), sl12⟩) (c12 : PySem.W.codeIn K cd12 "_law_text" = true) (k12 : PySem.W.keepIn K (.ref f12) = true)
    (a13 : PySem.W.nsIn K mainGlobals "_law_pattern" = some (some (.ref f13))) (l13 : K.lookup f13 = some ⟨oc13, od13, .func (PySem.W.fnOf "_law_pattern" "_law_pattern" (defArgs (topS 23)) (defBody (topS 23)) (defScope (topS 23)) .none kV13 dc13 pm13 an13 cd13 ct13), sl13⟩) (c13 : PySem.W.codeIn K cd13 "_law_pattern" = true) (k13 : PySem.W.keepIn K (.ref f13) = true)
    (a14 : PySem.W.nsIn K mainGlobals "_law_stems_of" = some (some (.ref f14))) (l14 : K.lookup f14 = some ⟨oc14, od14, .func (PySem.W.fnOf "_law_stems_of" "_law_stems_of" (defArgs (topS 24)) (defBody (topS 24)) (defScope (topS 24)) .none kV14 dc14 pm14 an14 cd14 ct14), sl14⟩) (c14 : PySem.W.codeIn K cd14 "_law_stems_of" = true) (k14 : PySem.W.keepIn K (.ref f14) = true)
    (a15 : PySem.W.nsIn K mainGlobals "_law_stems" = some (some (.ref f15))) (l15 : K.lookup f15 = some ⟨oc15, od15, .func (PySem.W.fnOf "_law_stems" "_law_stems" (defArgs (topS 25)) (defBody (topS 25)) (defScope (topS 25)) .none kV15 dc15 pm15 an15 cd15 ct15), sl15⟩) (c15 : PySem.W.codeIn K cd15 "_law_stems" = true) (k15 : PySem.W.keepIn K (.ref f15) = true)
    (a16 : PySem.W.nsIn K mainGlobals "_law_forms" = some (some (.ref f16))) (l16 : K.lookup f16 = some ⟨oc16, od16, .func (PySem.W.fnOf "_law_forms" "_law_forms" (defArgs (topS 26)) (defBody (topS 26)) (defScope (topS 26)) .none kV16 dc16 pm16 an16 cd16 ct16), sl16⟩) (c16 : PySem.W.codeIn K cd16 "_law_forms" = true) (k16 : PySem.W.keepIn K (.ref f16) = true)
    (a17 : PySem.W.nsIn K mainGlobals "law" = some (some (.ref f17))) (l17 : K.lookup f17 = some ⟨oc17, od17, .func (PySem.W.fnOf "law" "law" (defArgs (topS 27)) (defBody (topS 27)) (defScope (topS 27)) .none kV17 dc17 pm17 an17 cd17 ct17), sl17⟩) (c17 : PySem.W.codeIn K cd17 "law" = true) (k17 : PySem.W.keepIn K (.ref f17) = true)
    (z1 : PySem.W.nsIn K mainGlobals "len" = some none)
    (z2 : PySem.W.nsIn K mainGlobals "abs" = some none)
    (z3 : PySem.W.nsIn K mainGlobals "all" = some none)
    (z4 : PySem.W.nsIn K mainGlobals "any" = some none)
    (z5 : PySem.W.nsIn K mainGlobals "max" = some none)
    (z6 : PySem.W.nsIn K mainGlobals "min" = some none)
    (z7 : PySem.W.nsIn K mainGlobals "tuple" = some none)
    (z8 : PySem.W.nsIn K mainGlobals "list" = some none)
    (z9 : PySem.W.nsIn K mainGlobals "range" = some none)
    (z10 : PySem.W.nsIn K mainGlobals "enumerate" = some none)
    (z11 : PySem.W.nsIn K mainGlobals "zip" = some none)
    (z12 : PySem.W.nsIn K mainGlobals "isinstance" = some none)
    (z13 : PySem.W.nsIn K mainGlobals "int" = some none)
    (z14 : PySem.W.nsIn K mainGlobals "bool" = some none)
    (z15 : PySem.W.nsIn K mainGlobals "str" = some none)
    (z16 : PySem.W.nsIn K mainGlobals "sorted" = some none)
    {t1 : Tok} (g1 : PySem.W.nsIn K mainGlobals "LETTERS" = some (some (.str "abcdefghijklmnopqrstuvwxyz" t1)))
    {t2 : Tok} (g2 : PySem.W.nsIn K mainGlobals "MOST_CELLS" = some (some (.int 8 t2)))
    {t3 : Tok} (g3 : PySem.W.nsIn K mainGlobals "MOST_STEMS" = some (some (.int 3 t3)))
    {t4 : Tok} (g4 : PySem.W.nsIn K mainGlobals "MOST_ENDING" = some (some (.int 6 t4)))
    {t5 : Tok} (g5 : PySem.W.nsIn K mainGlobals "MOST_STEM" = some (some (.int 8 t5)))
    (pure : ∀ ns : List Int, ns.length ≤ 63 → ∃ s, callD (tab ents) WF DP "law" [.scr ns] [] = .ok (.bl true, false) s) :
    ∃ fd : FuncData, (∀ (s : Shared) (v : Value), BindsTo s fd ⟨[v], []⟩ [("_law_script", v)]) ∧ ∀ base : Heap, K.In base → base.Ns mainGlobals mg → FnOk l.prog w K mg base CX0 (DP + 1) fa fd ["_law_script"] (spLaw K) := by
  have e := hfa.symm.trans (PySem.W.mg_of X G a17)
  cases e
  have F1 := fun_mk (st := topS 10) l1 c1 k1
  have b1 := F1.binds (ps := ["thing", "low", "high"]) fun _ _ _ _ _ _ us hl => match us, hl with | [_, _, _], _ => rfl
  have A1 : At K mg e_is_number f1 _ := ⟨⟨_, fund_mk (st := topS 10) l1 c1 k1⟩, PySem.W.mg_of X G a1, b1, at_no b1⟩
  have F2 := fun_mk (st := topS 11) l2 c2 k2
  have b2 := F2.binds (ps := ["thing", "low", "high"]) fun _ _ _ _ _ _ us hl => match us, hl with | [_, _, _], _ => rfl
  have A2 : At K mg e_is_run f2 _ := ⟨⟨_, fund_mk (st := topS 11) l2 c2 k2⟩, PySem.W.mg_of X G a2, b2, at_no b2⟩
  have F3 := fun_mk (st := topS 12) l3 c3 k3
  have b3 := F3.binds (ps := ["thing"]) fun _ _ _ _ _ _ us hl => match us, hl with | [_], _ => rfl
  have A3 : At K mg e_is_entry f3 _ := ⟨⟨_, fund_mk (st := topS 12) l3 c3 k3⟩, PySem.W.mg_of X G a3, b3, at_no b3⟩
  have F4 := fund_non (st := topS 13) l4 c4 k4 d4
  have b4 := at_full (F4.binds1 (ps := ["pattern", "many"]) 2 1 (by simp) rfl fun _ _ _ _ _ _ _ us its hl hi => match us, its, hl, hi with | [_, _], [_], _, _ => ⟨_, rfl, rfl⟩)
  have q4 := F4.binds1 (ps := ["pattern", "many"]) 1 0 (by simp) rfl fun _ _ _ _ _ _ _ us its hl hi => match us, its, hl, hi with | [_], [_], _, _ => ⟨_, rfl, rfl⟩
  have A4 : At K mg e_need_pattern f4 _ := ⟨⟨_, F4⟩, PySem.W.mg_of X G a4, b4, at_non q4⟩
  have F5 := fun_mk (st := topS 14) l5 c5 k5
  have b5 := F5.binds (ps := ["pattern"]) fun _ _ _ _ _ _ us hl => match us, hl with | [_], _ => rfl
  have A5 : At K mg e_stems_of f5 _ := ⟨⟨_, fund_mk (st := topS 14) l5 c5 k5⟩, PySem.W.mg_of X G a5, b5, at_no b5⟩
  have F6 := fun_mk (st := topS 15) l6 c6 k6
  have b6 := F6.binds (ps := ["pattern", "stems"]) fun _ _ _ _ _ _ us hl => match us, hl with | [_, _], _ => rfl
  have A6 : At K mg e_need_stems f6 _ := ⟨⟨_, fund_mk (st := topS 15) l6 c6 k6⟩, PySem.W.mg_of X G a6, b6, at_no b6⟩
  have F7 := fun_mk (st := topS 16) l7 c7 k7
  have b7 := F7.binds (ps := ["pattern", "stems"]) fun _ _ _ _ _ _ us hl => match us, hl with | [_, _], _ => rfl
  have A7 : At K mg e_made f7 _ := ⟨⟨_, fund_mk (st := topS 16) l7 c7 k7⟩, PySem.W.mg_of X G a7, b7, at_no b7⟩
  have F8 := fun_mk (st := topS 17) l8 c8 k8
  have b8 := F8.binds (ps := ["pattern", "stems"]) fun _ _ _ _ _ _ us hl => match us, hl with | [_, _], _ => rfl
  have A8 : At K mg e_forms f8 _ := ⟨⟨_, fund_mk (st := topS 17) l8 c8 k8⟩, PySem.W.mg_of X G a8, b8, at_no b8⟩
  have F9 := fun_mk (st := topS 19) l9 c9 k9
  have b9 := F9.binds (ps := ["_law_script", "_law_k"]) fun _ _ _ _ _ _ us hl => match us, hl with | [_, _], _ => rfl
  have A9 : At K mg e_law_dice f9 _ := ⟨⟨_, fund_mk (st := topS 19) l9 c9 k9⟩, PySem.W.mg_of X G a9, b9, at_no b9⟩
  have F10 := fun_mk (st := topS 20) l10 c10 k10
  have b10 := F10.binds (ps := ["_law_d", "_law_upto"]) fun _ _ _ _ _ _ us hl => match us, hl with | [_, _], _ => rfl
  have A10 : At K mg e_law_off f10 _ := ⟨⟨_, fund_mk (st := topS 20) l10 c10 k10⟩, PySem.W.mg_of X G a10, b10, at_no b10⟩
  have F11 := fun_mk (st := topS 21) l11 c11 k11
  have b11 := F11.binds (ps := ["_law_found", "_law_due"]) fun _ _ _ _ _ _ us hl => match us, hl with | [_, _], _ => rfl
  have A11 : At K mg e_law_alike f11 _ := ⟨⟨_, fund_mk (st := topS 21) l11 c11 k11⟩, PySem.W.mg_of X G a11, b11, at_no b11⟩
  have F12 := fun_mk (st := topS 22) l12 c12 k12
  have b12 := F12.binds (ps := ["_law_d", "_law_low", "_law_high", "_law_signs"]) fun _ _ _ _ _ _ us hl => match us, hl with | [_, _, _, _], _ => rfl
  have A12 : At K mg e_law_text f12 _ := ⟨⟨_, fund_mk (st := topS 22) l12 c12 k12⟩, PySem.W.mg_of X G a12, b12, at_no b12⟩
  have F13 := fun_mk (st := topS 23) l13 c13 k13
  have b13 := F13.binds (ps := ["_law_d", "_law_many"]) fun _ _ _ _ _ _ us hl => match us, hl with | [_, _], _ => rfl
  have A13 : At K mg e_law_pattern f13 _ := ⟨⟨_, fund_mk (st := topS 23) l13 c13 k13⟩, PySem.W.mg_of X G a13, b13, at_no b13⟩
  have F14 := fun_mk (st := topS 24) l14 c14 k14
  have b14 := F14.binds (ps := ["_law_pattern_here"]) fun _ _ _ _ _ _ us hl => match us, hl with | [_], _ => rfl
  have A14 : At K mg e_law_stems_of f14 _ := ⟨⟨_, fund_mk (st := topS 24) l14 c14 k14⟩, PySem.W.mg_of X G a14, b14, at_no b14⟩
  have F15 := fun_mk (st := topS 25) l15 c15 k15
  have b15 := F15.binds (ps := ["_law_d", "_law_pattern_here"]) fun _ _ _ _ _ _ us hl => match us, hl with | [_, _], _ => rfl
  have A15 : At K mg e_law_stems f15 _ := ⟨⟨_, fund_mk (st := topS 25) l15 c15 k15⟩, PySem.W.mg_of X G a15, b15, at_no b15⟩
  have F16 := fun_mk (st := topS 26) l16 c16 k16
  have b16 := F16.binds (ps := ["_law_pattern_here", "_law_stems_here"]) fun _ _ _ _ _ _ us hl => match us, hl with | [_, _], _ => rfl
  have A16 : At K mg e_law_forms f16 _ := ⟨⟨_, fund_mk (st := topS 26) l16 c16 k16⟩, PySem.W.mg_of X G a16, b16, at_no b16⟩
  have F17 := fun_mk (st := topS 27) l17 c17 k17
  have b17 := F17.binds (ps := ["_law_script"]) fun _ _ _ _ _ _ us hl => match us, hl with | [_], _ => rfl
  have A17 : At K mg e_law fa _ := ⟨⟨_, fund_mk (st := topS 27) l17 c17 k17⟩, PySem.W.mg_of X G a17, b17, at_no b17⟩
  have W0 : World0 K mg ents cons := by
    refine ⟨?_, ?_, ?_⟩
    · exact ents_cons A1 (ents_cons A2 (ents_cons A3 (ents_cons A4 (ents_cons A5 (ents_cons A6 (ents_cons A7 (ents_cons A8 (ents_cons A9 (ents_cons A10 (ents_cons A11 (ents_cons A12 (ents_cons A13 (ents_cons A14 (ents_cons A15 (ents_cons A16 (ents_cons A17 (ents_nil)))))))))))))))))
    · exact blt_cons (PySem.W.mg_none_of X G z1) (blt_cons (PySem.W.mg_none_of X G z2) (blt_cons (PySem.W.mg_none_of X G z3) (blt_cons (PySem.W.mg_none_of X G z4) (blt_cons (PySem.W.mg_none_of X G z5) (blt_cons (PySem.W.mg_none_of X G z6) (blt_cons (PySem.W.mg_none_of X G z7) (blt_cons (PySem.W.mg_none_of X G z8) (blt_cons (PySem.W.mg_none_of X G z9) (blt_cons (PySem.W.mg_none_of X G z10) (blt_cons (PySem.W.mg_none_of X G z11) (blt_cons (PySem.W.mg_none_of X G z12) (blt_cons (PySem.W.mg_none_of X G z13) (blt_cons (PySem.W.mg_none_of X G z14) (blt_cons (PySem.W.mg_none_of X G z15) (blt_cons (PySem.W.mg_none_of X G z16) (blt_nil))))))))))))))))
    · exact con_str (PySem.W.mg_of X G g1) rfl (con_int (PySem.W.mg_of X G g2) (con_int (PySem.W.mg_of X G g3) (con_int (PySem.W.mg_of X G g4) (con_int (PySem.W.mg_of X G g5) (con_nil)))))
  exact ⟨_, fun s v => .of_eq rfl, fun base _ _ => law_ok (e := e_law) W0 looks (by unfold ents; simp only [List.mem_cons, true_or, or_true]) rfl A17 rfl pure⟩
theorem walk {l : PySem.W.OpenLaw} {q : Program} {loose : List Str} {XP : (Str → Option Value) → Heap → Prop} {YP : World → Heap → Prop} {d : DefRec} {K : Params → PySem.W.Frag} (hn : l.most = some 63) (hdf : d.params.defaults = [])
    (hY : ∀ (w : World) (h : Heap), YP w h → (K w.params).In h)
    (F : ∀ (w : World) (mg : Str → Option Value) (fa : Addr) (h : Heap), (K w.params).In h → h.Ns mainGlobals mg → mg d.name = some (.ref fa) →
      ∃ fd : FuncData, (∀ (s : Shared) (u : Value), BindsTo s fd ⟨[u], []⟩ [("_law_script", u)]) ∧ ∀ base : Heap, (K w.params).In base → base.Ns mainGlobals mg → FnOk l.prog w (K w.params) mg base CX0 (DP + 1) fa fd ["_law_script"] (spLaw (K w.params))) :
    PySem.W.WalkO q loose XP YP l.row.toRowW d [] (fun f vs => PySem.call f vs) :=
  L2.walk_of (n := 63) (k := DP + 1) (x := "_law_script") (CX := fun _ => CX0) (sp := fun w => spLaw (K w.params)) hn (by decide) hdf ⟨rfl, by decide, by decide⟩ hY F (fun _ _ a ns hl _ hS => ⟨a, ns, rfl, hS, hl, fun _ => rfl⟩) fun _ _ _ _ _ z => z
end
end Lm
open PySem PySem.W PyProof.Rows
set_option maxRecDepth 100000 in
set_option maxHeartbeats 0 in
theorem PySem.Challenge.cw_stemloom_k03_forms_of_patterns_holds : PySem.Challenge.rw_stemloom_k03_forms_of_patterns.Holds := by
  w_on; o_law; k_head; (case hw => w_witness2)
  k_fill
  refine Lm.walk (l := PySem.Challenge.rw_stemloom_k03_forms_of_patterns) rfl rfl (fun w h Y => PySem.W.kIn_of Y) ?F
  case F =>
    intro w mg fa h KX G hmg
    refine' Lm.all_mk KX G hmg ?a1 ?l1 ?c1 ?k1 ?a2 ?l2 ?c2 ?k2 ?a3 ?l3 ?c3 ?k3 ?d4 ?a4 ?l4 ?c4 ?k4 ?a5 ?l5 ?c5 ?k5 ?a6 ?l6 ?c6 ?k6 ?a7 ?l7 ?c7 ?k7 ?a8 ?l8 ?c8 ?k8 ?a9 ?l9 ?c9 ?k9 ?a10 ?l10 ?c10 ?k10 ?a11 ?l11 ?c11 ?k11 ?a12 ?l12 ?c12 ?k12 ?a13 ?l13 ?c13 ?k13 ?a14 ?l14 ?c14 ?k14 ?a15 ?l15 ?c15 ?k15 ?a16 ?l16 ?c16 ?k16 ?a17 ?l17 ?c17 ?k17 ?z1 ?z2 ?z3 ?z4 ?z5 ?z6 ?z7 ?z8 ?z9 ?z10 ?z11 ?z12 ?z13 ?z14 ?z15 ?z16 ?g1 ?g2 ?g3 ?g4 ?g5 Lm.Pl.law_pure
    (case a1 => k_is); (case l1 => k_is); (case c1 => k_is); (case k1 => k_is); (case a2 => k_is); (case l2 => k_is)
    (case c2 => k_is); (case k2 => k_is); (case a3 => k_is); (case l3 => k_is); (case c3 => k_is); (case k3 => k_is)
    (case d4 => k_is); (case a4 => k_is); (case l4 => k_is); (case c4 => k_is); (case k4 => k_is); (case a5 => k_is)
    (case l5 => k_is); (case c5 => k_is); (case k5 => k_is); (case a6 => k_is); (case l6 => k_is); (case c6 => k_is)
    (case k6 => k_is); (case a7 => k_is); (case l7 => k_is); (case c7 => k_is); (case k7 => k_is); (case a8 => k_is)
    (case l8 => k_is); (case c8 => k_is); (case k8 => k_is); (case a9 => k_is); (case l9 => k_is); (case c9 => k_is)
    (case k9 => k_is); (case a10 => k_is); (case l10 => k_is); (case c10 => k_is); (case k10 => k_is); (case a11 => k_is)
    (case l11 => k_is); (case c11 => k_is); (case k11 => k_is); (case a12 => k_is); (case l12 => k_is); (case c12 => k_is)
    (case k12 => k_is); (case a13 => k_is); (case l13 => k_is); (case c13 => k_is); (case k13 => k_is); (case a14 => k_is)
    (case l14 => k_is); (case c14 => k_is); (case k14 => k_is); (case a15 => k_is); (case l15 => k_is); (case c15 => k_is)
    (case k15 => k_is); (case a16 => k_is); (case l16 => k_is); (case c16 => k_is); (case k16 => k_is); (case a17 => k_is)
    (case l17 => k_is); (case c17 => k_is); (case k17 => k_is); (case z1 => k_is); (case z2 => k_is); (case z3 => k_is)
    (case z4 => k_is); (case z5 => k_is); (case z6 => k_is); (case z7 => k_is); (case z8 => k_is); (case z9 => k_is)
    (case z10 => k_is); (case z11 => k_is); (case z12 => k_is); (case z13 => k_is); (case z14 => k_is); (case z15 => k_is)
    (case z16 => k_is); (case g1 => k_is); (case g2 => k_is); (case g3 => k_is); (case g4 => k_is); (case g5 => k_is)
