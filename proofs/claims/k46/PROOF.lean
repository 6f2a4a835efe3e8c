import PyProof.Rows.All
import HandS.ForMost
import HandS.ForSpec
import HandS.TupAny
import HandS.TupMul
import HandS.Strs
import HandS.Style
import HandS.SortInts
import HandS.Conv
import HandS.SetFor
import PyProof.SetRoads
import PyProof.Rows.SetFrom
import HandS.TupSets
import HandS.Zip
import HandS.IsInst
import HandS.Deep
import HandS.Wide
import KE.SortData
import HandS.Replace
import HandS.Rev
import HandS.Iter
import HandS.WordsExc
import HandS.Defaults
import HandS.HeadHook1
import HandS.HeadHook2
import HandS.HeadEnd
import PyProof.Rows.KernelRfl
import HandS.Head0
import HandS.Head1
import HandS.Head2
import PySem.Challenge.RW_productstold_k46_whole_things_that_meet
set_option Elab.async false
set_option linter.all false
/-! # Mp: a small pure Python, its values, its syntax, its run. -/
noncomputable section
namespace Mp
open PySem

/-- values; undef: a slot that holds nothing (or nothing that is told) -/
inductive Val where
  | undef | non
  | bl (b : Bool) | int (i : Int) | str (s : Str)
  | tup (xs : List Val) | lst (xs : List Val)
  | dct (ks vs : List Val)
  | opq (k : Nat) (xs : List Val)
  deriving Inhabited

mutual
def eqv : Val → Val → Bool
  | .non, .non => true
  | .bl a, .bl b => a == b
  | .bl a, .int j => (if a then 1 else 0) == j
  | .int i, .bl b => i == (if b then 1 else 0)
  | .int i, .int j => i == j
  | .str x, .str y => x == y
  | .lst xs, .lst ys => eqvs xs ys
  | .tup xs, .tup ys => eqvs xs ys
  | _, _ => false
def eqvs : List Val → List Val → Bool
  | [], [] => true
  | x :: xs, y :: ys => eqv x y && eqvs xs ys
  | _, _ => false
end
mutual
def dep : Val → Nat
  | .lst xs => deps xs + 1
  | .tup xs => deps xs + 1
  | _ => 0
def deps : List Val → Nat
  | [] => 0
  | x :: xs => max (dep x) (deps xs)
end
mutual
def same : Val → Val → Bool
  | .non, .non => true
  | .bl a, .bl b => a == b
  | .int i, .int j => i == j
  | .str x, .str y => x == y
  | .lst xs, .lst ys => sames xs ys
  | .tup xs, .tup ys => sames xs ys
  | _, _ => false
def sames : List Val → List Val → Bool
  | [], [] => true
  | x :: xs, y :: ys => same x y && sames xs ys
  | _, _ => false
end
/-- data, of which == may be asked -/
def isDat : Val → Bool
  | .undef => false
  | .dct _ _ => false
  | .opq _ _ => false
  | _ => true

/-! ### syntax -/
inductive Bop where | add | sub | mul | fdiv | mod | pow | band | bor | bxor | shl | shr
  deriving DecidableEq
inductive Cop where | eq | ne | lt | le | gt | ge | isin | notin | is | isnot
  deriving DecidableEq
inductive Ty where | int | bool | str | tuple | list
  deriving DecidableEq
inductive Bi where | len | tuple | list | sorted | sum | min | max | abs | int | all | any | str | isinst (t : Ty) | rg (t : Bool) | st (t : Bool)
  deriving DecidableEq
inductive Me where | index | count
  deriving DecidableEq
/-- what is walked -/
inductive Src where | plain | range | enum | zip | rev | items | values
  deriving DecidableEq
inductive Tgt where | one (i : Nat) | tup (is : List Nat)
  deriving DecidableEq

inductive E where
  | int (i : Int) | str (s : Str) | bl (b : Bool) | non
  | cst (x : Str) (v : Val)
  | var (i : Nat)
  | io (i : Nat)
  | tup (es : List E) | lst (es : List E)
  | bin (o : Bop) (a b : E)
  | neg (a : E)
  | cmp (o : Cop) (a b : E)
  | cmp2 (o o2 : Cop) (a b c : E)
  | and (a b : E) | or (a b : E) | not (a : E)
  | ite (c a b : E)
  | idx (a b : E)
  | slc (a : E) (lo hi : List E)
  | rv (a : E)
  | call (f : Nat) (args : List E) (js : List Nat) (brw : Nat)
  | bi (b : Bi) (args : List E)
  | me (m : Me) (a : E) (args : List E)
  | pop (i : Nat)
  | popAt (i : Nat) (a : E)
  | comp (t : Tgt) (k : Src) (srcs : List E) (cond : List E) (elt : E)

inductive S where
  | asg (i : Nat) (d : Nat) (e : E)
  | mv (i j : Nat)
  | fz (i : Nat)
  | asgT (is : List Nat) (e : E)
  | par (is : List Nat) (ds : List Nat) (es : List E)
  | sub1 (i : Nat) (ix v : E)
  | sub2 (i : Nat) (ix iy v : E)
  | app (i : Nat) (v : E)
  | app1 (i : Nat) (ix v : E)
  | ex (e : E)
  | ite (c : E) (a b : List S)
  | whl (n : Nat) (c : E) (b : List S)
  | loop (t : Tgt) (k : Src) (srcs : List E) (b : List S)
  | ret (e : E) | retN
  | brk | pass
  | raise (c : Nat) (args : List E)
  | kill (is : List Nat)

/-! ### outcomes -/
abbrev Env := List Val
structure Ex where
  cls : Nat
  arg : Val
inductive R (α : Type) where
  | ok (a : α) (e : Env)
  | exc (x : Ex) (e : Env)
  | bad
inductive O where
  | nx (e : Env)
  | ret (v : Val) (e : Env)
  | brk (e : Env)
  | exc (x : Ex) (e : Env)
  | bad
inductive RC where
  | ok (v : Val) (outs : List Val)
  | exc (x : Ex) (outs : List Val)
  | bad

/-! ### slots -/
def gt (e : Env) : Nat → Val := List.rec (motive := fun _ => Nat → Val) (fun _ => .undef) (fun v _ ih i => Nat.rec (motive := fun _ => Val) v (fun n _ => ih n) i) e
@[simp] theorem gt_nil (n : Nat) : gt [] n = .undef := rfl
@[simp] theorem gt_zero (v : Val) (r : Env) : gt (v :: r) 0 = v := rfl
@[simp] theorem gt_succ (v : Val) (r : Env) (n : Nat) : gt (v :: r) (n + 1) = gt r n := rfl
def st (e : Env) : Nat → Val → Env := List.rec (motive := fun _ => Nat → Val → Env) (fun _ _ => []) (fun u r ih i => Nat.rec (motive := fun _ => Val → Env) (fun v => v :: r) (fun n _ v => u :: ih n v) i) e
@[simp] theorem st_nil (n : Nat) (v : Val) : st [] n v = [] := rfl
@[simp] theorem st_zero (u v : Val) (r : Env) : st (u :: r) 0 v = v :: r := rfl
@[simp] theorem st_succ (u v : Val) (r : Env) (n : Nat) : st (u :: r) (n + 1) v = u :: st r n v := rfl
def kills : List Nat → Env → Env
  | [], e => e
  | i :: is, e => kills is (st e i .undef)
def puts : List Nat → List Val → Env → Option Env
  | [], [], e => some e
  | i :: is, v :: vs, e => puts is vs (st e i v)
  | _, _, _ => none
def gets (e : Env) : List Nat → List Val
  | [] => []
  | i :: is => gt e i :: gets e is
/-- slots as they were -/
def rst (o : Env) : List Nat → Env → Env
  | [], e => e
  | i :: is, e => rst o is (st e i (gt o i))
def Tgt.slots : Tgt → List Nat
  | .one i => [i]
  | .tup is => is
def bindT : Tgt → Val → Env → Option Env
  | .one i, v, e => some (st e i v)
  | .tup is, .tup xs, e => puts is xs e
  | _, _, _ => none

/-! ### what the words do with values -/
def LIM : Nat := 16000000
def big : Int := 18446744073709551616
def small (i : Int) : Bool := decide (-big < i) && decide (i < big)
def reps (xs : List Val) : Nat → List Val
  | 0 => []
  | n + 1 => xs ++ reps xs n
def omap {α β : Type} (f : α → β) (o : Option α) : Option β := Option.rec (motive := fun _ => Option β) none (fun a => some (f a)) o
@[simp] theorem omap_some {α β : Type} (f : α → β) (a : α) : omap f (some a) = some (f a) := rfl
@[simp] theorem omap_none {α β : Type} (f : α → β) : omap f none = none := rfl
def obind {α β : Type} (o : Option α) (f : α → Option β) : Option β := Option.rec (motive := fun _ => Option β) none f o
@[simp] theorem obind_some {α β : Type} (f : α → Option β) (a : α) : obind (some a) f = f a := rfl
@[simp] theorem obind_none {α β : Type} (f : α → Option β) : obind none f = none := rfl
def bAdd : Val → Val → Option Val
  | .int i, .int j => some (.int (i + j))
  | .tup xs, .tup ys => if Nat.ble (xs.length + ys.length) LIM then some (.tup (xs ++ ys)) else none
  | .lst xs, .lst ys => if Nat.ble (xs.length + ys.length) LIM then some (.lst (xs ++ ys)) else none
  | .str x, .str y => if Nat.ble (x.length + y.length) LIM then some (.str (x ++ y)) else none
  | _, _ => none
def bSub : Val → Val → Option Val
  | .int i, .int j => some (.int (i - j))
  | _, _ => none
def bMul : Val → Val → Option Val
  | .int i, .int j => if small i || small j then some (.int (i * j)) else none
  | .lst xs, .int k => if decide (0 ≤ k) && decide (k < 1000000) && Nat.ble (xs.length * k.toNat) LIM then some (.lst (reps xs k.toNat)) else none
  | .tup xs, .int k => if decide (2 ≤ k) && decide (k ≤ 1000) && Nat.ble xs.length 1000 && Nat.ble 1 xs.length then some (.tup (reps xs k.toNat)) else (if decide (k = 1) then some (.tup xs) else none)
  | _, _ => none
def bDiv : Val → Val → Option Val
  | .int i, .int j => if decide (0 < j) && decide (j < 18446744073709551616) then some (.int (i / j)) else none
  | _, _ => none
def bMod : Val → Val → Option Val
  | .int i, .int j => if decide (0 < j) then some (.int (i % j)) else none
  | _, _ => none
def bPow : Val → Val → Option Val
  | .int i, .int j => if decide (0 ≤ j) && decide (j ≤ 1000000) && small i then some (.int (i ^ j.toNat)) else none
  | _, _ => none
def bop : Bop → Val → Val → Option Val
  | .add => bAdd
  | .sub => bSub
  | .mul => bMul
  | .fdiv => bDiv
  | .mod => bMod
  | .pow => bPow
  | _ => fun _ _ => none
def okEq (a b : Val) : Bool := isDat a && isDat b && Nat.ble (min (dep a) (dep b)) 190
def flat : Val → Bool
  | .non => true
  | .bl _ => true
  | .int _ => true
  | .str _ => true
  | _ => false
def allFlat : List Val → Bool
  | [] => true
  | x :: xs => flat x && allFlat xs
def anyEq (x : Val) : List Val → Bool
  | [] => false
  | y :: ys => eqv y x || anyEq x ys
def inL (x : Val) (ys : List Val) : Option Bool := if isDat x && Nat.ble (min (deps ys) (dep x)) 180 then some (anyEq x ys) else none
def inS (t : Str) : Val → Option Bool
  | .str s => some (!(Builtin.Str.occurrences t s 0 t.length 1).isEmpty)
  | _ => none
def isIn (x : Val) : Val → Option Bool
  | .lst ys => inL x ys
  | .tup ys => inL x ys
  | .str t => inS t x
  | _ => none
def isNon : Val → Bool
  | .non => true
  | _ => false
def cmpI (f : Int → Int → Bool) : Val → Val → Option Bool
  | .int i, .int j => some (f i j)
  | _, _ => none
def cEq (a b : Val) : Option Bool := if okEq a b then some (eqv a b) else none
def notO (o : Option Bool) : Option Bool := match o with
  | some b => some (!b)
  | none => none
def cIs (a : Val) : Val → Option Bool
  | .bl b => (match a with
    | .bl c => some (c == b)
    | _ => none)
  | .non => if isDat a then some (isNon a) else none
  | _ => none
def cop : Cop → Val → Val → Option Bool
  | .eq => cEq
  | .ne => fun a b => notO (cEq a b)
  | .lt => cmpI fun i j => decide (i < j)
  | .le => cmpI fun i j => decide (i ≤ j)
  | .gt => cmpI fun i j => decide (j < i)
  | .ge => cmpI fun i j => decide (j ≤ i)
  | .isin => isIn
  | .notin => fun a b => notO (isIn a b)
  | .is => cIs
  | .isnot => fun a b => notO (cIs a b)
def seqOf : Val → Option (List Val)
  | .lst xs => some xs
  | .tup xs => some xs
  | _ => none
def bools : List Val → Option (List Bool)
  | [] => some []
  | .bl b :: r => (bools r).map (b :: ·)
  | _ :: _ => none
def intsV : List Val → Option (List Int)
  | [] => some []
  | .int i :: r => (intsV r).map (i :: ·)
  | _ :: _ => none
def insI (x : Int) : List Int → List Int
  | [] => [x]
  | y :: ys => if x ≤ y then x :: y :: ys else y :: insI x ys
def sortI : List Int → List Int
  | [] => []
  | x :: xs => insI x (sortI xs)
def minI : List Int → Option Int
  | [] => none
  | x :: xs => some (xs.foldl (fun m y => if y < m then y else m) x)
def maxI : List Int → Option Int
  | [] => none
  | x :: xs => some (xs.foldl (fun m y => if m < y then y else m) x)
/-- the kind of a value: its number, or that of none -/
def kindOf (v : Val) : Nat := Val.rec (motive_1 := fun _ => Nat) (motive_2 := fun _ => Nat) 9 5 (fun _ => 1) (fun _ => 0) (fun _ => 2) (fun _ _ => 3) (fun _ _ => 4) (fun _ _ _ _ => 9) (fun _ _ _ => 9) 0 (fun _ _ _ _ => 0) v
@[simp] theorem kindOf_undef : kindOf .undef = 9 := rfl
@[simp] theorem kindOf_non : kindOf .non = 5 := rfl
@[simp] theorem kindOf_bl (b : Bool) : kindOf (.bl b) = 1 := rfl
@[simp] theorem kindOf_int (b : Int) : kindOf (.int b) = 0 := rfl
@[simp] theorem kindOf_str (b : Str) : kindOf (.str b) = 2 := rfl
@[simp] theorem kindOf_tup (b : List Val) : kindOf (.tup b) = 3 := rfl
@[simp] theorem kindOf_lst (b : List Val) : kindOf (.lst b) = 4 := rfl
@[simp] theorem kindOf_dct (b c : List Val) : kindOf (.dct b c) = 9 := rfl
@[simp] theorem kindOf_opq (n : Nat) (b : List Val) : kindOf (.opq n b) = 9 := rfl
def tyOk (t : Ty) (k : Nat) : Bool := Ty.rec (motive := fun _ => Bool) (Nat.ble k 1) (Nat.beq k 1) (Nat.beq k 2) (Nat.beq k 3) (Nat.beq k 4) t
def isTy (t : Ty) (v : Val) : Option Bool := cond (Nat.ble (kindOf v) 5) (some (tyOk t (kindOf v))) none
def upFrom (a : Int) : Nat → List Val
  | 0 => []
  | n + 1 => .int a :: upFrom (a + 1) n
def on1 (f : Val → Option Val) (l : List Val) : Option Val := List.rec (motive := fun _ => Option Val) none (fun v r _ => List.rec (motive := fun _ => Option Val) (f v) (fun _ _ _ => none) r) l
@[simp] theorem on1_one (f : Val → Option Val) (v : Val) : on1 f [v] = f v := rfl
def lenV : Val → Option Val
  | .lst xs => some (.int xs.length)
  | .tup xs => some (.int xs.length)
  | .str s => some (.int s.length)
  | .dct ks _ => some (.int ks.length)
  | _ => none
def lstOf : Val → Option (List Val)
  | .lst xs => some xs
  | _ => none
def minV : List Val → Option Val
  | [v] => omap .int (obind (obind (lstOf v) intsV) minI)
  | [.int i, .int j] => some (.int (if j < i then j else i))
  | _ => none
def maxV : List Val → Option Val
  | [v] => omap .int (obind (obind (lstOf v) intsV) maxI)
  | [.int i, .int j] => some (.int (if j > i then j else i))
  | _ => none
def absV : Val → Option Val
  | .int i => some (.int (if i < 0 then -i else i))
  | _ => none
def intV : Val → Option Val
  | .int i => some (.int i)
  | _ => none
/-- what list() takes; opq 0: the script -/
def listOf : Val → Option (List Val)
  | .lst xs => some xs
  | .tup xs => some xs
  | .opq 0 xs => some xs
  | _ => none
def rangeC (a c : Int) : Nat → List Val
  | 0 => []
  | n + 1 => .int a :: rangeC (a + c) c n
def rng (i : Int) : Bool := decide (-4000000000000000000 < i) && decide (i < 4000000000000000000)
def rangeV : List Val → Option (List Val)
  | [.int n] => if rng n && Nat.ble n.toNat LIM then some (upFrom 0 n.toNat) else none
  | [.int a, .int b] => if rng a && rng b && Nat.ble (b - a).toNat LIM then some (upFrom a (b - a).toNat) else none
  | [.int a, .int b, .int c] => if decide (c ≠ 0) && decide (c.natAbs < 1073741824) && Builtin.Range.small a b c && Nat.ble (Builtin.Range.rangeSize a b c).toNat LIM then some (rangeC a c (Builtin.Range.rangeSize a b c).toNat) else none
  | _ => none
/-- list(range(..)), tuple(range(..)) -/
def rangeV2 : List Val → Option (List Val)
  | [a] => rangeV [a]
  | [a, b] => rangeV [a, b]
  | _ => none
def rgMk (t : Bool) (xs : List Val) : Val := Bool.rec (motive := fun _ => Val) (.lst xs) (.tup xs) t
@[simp] theorem rgMk_f (xs : List Val) : rgMk false xs = .lst xs := rfl
@[simp] theorem rgMk_t (xs : List Val) : rgMk true xs = .tup xs := rfl
/-- sorted(set(..)), len(set(..)) -/
def insU (x : Int) : List Int → List Int
  | [] => [x]
  | y :: ys => if x < y then x :: y :: ys else if y < x then y :: insU x ys else y :: ys
def stI (l : List Int) : List Int := l.foldr insU []
def stMk (t : Bool) (l : List Int) : Val := Bool.rec (motive := fun _ => Val) (.lst (l.map .int)) (.int (l.length : Nat)) t
@[simp] theorem stMk_f (l : List Int) : stMk false l = .lst (l.map .int) := rfl
@[simp] theorem stMk_t (l : List Int) : stMk true l = .int (l.length : Nat) := rfl
def stV (t : Bool) (l : List Int) : Option Val := if Nat.ble l.length 63 then some (stMk t (stI l)) else none
/-- the order of rows, as the kernel runs it -/
def rowLe : List Int → List Int → Bool
  | [], _ => true
  | _ :: _, [] => false
  | a :: x, b :: y => if a < b then true else if a = b then rowLe x y else false
def insR (x : List Int) : List (List Int) → List (List Int)
  | [] => [x]
  | y :: ys => if rowLe x y then x :: y :: ys else y :: insR x ys
def sortR : List (List Int) → List (List Int)
  | [] => []
  | x :: xs => insR x (sortR xs)
def rowT (l : List Int) : Val := .tup (l.map .int)
def rowsV : List Val → Option (List (List Int))
  | [] => some []
  | .tup ys :: r => (match intsV ys with
    | some (a :: l) => (rowsV r).map ((a :: l) :: ·)
    | _ => none)
  | _ => none
def sortRV : Val → Option Val
  | .lst xs => (rowsV xs).map fun L => .lst ((sortR L).map rowT)
  | _ => none
def sortX (v : Val) : Option Val := match obind (seqOf v) intsV with
  | some l => some (.lst ((sortI l).map .int))
  | none => sortRV v
def bifn : Bi → List Val → Option Val
  | .len => on1 lenV
  | .tuple => on1 fun v => omap .tup (seqOf v)
  | .list => on1 fun v => omap .lst (listOf v)
  | .sorted => on1 sortX
  | .sum => on1 fun v => omap (fun l => .int l.sum) (obind (lstOf v) intsV)
  | .min => minV
  | .max => maxV
  | .abs => on1 absV
  | .int => on1 intV
  | .all => on1 fun v => omap (fun l => .bl (l.all id)) (obind (lstOf v) bools)
  | .any => on1 fun v => omap (fun l => .bl (l.any id)) (obind (lstOf v) bools)
  | .isinst t => on1 fun v => omap .bl (isTy t v)
  | .str => fun _ => none
  | .rg t => fun vs => omap (rgMk t) (rangeV2 vs)
  | .st t => on1 fun v => obind (obind (seqOf v) intsV) (stV t)
def findEq (x : Val) : List Val → Nat → Option Nat
  | [], _ => none
  | y :: ys, n => if eqv y x then some n else findEq x ys (n + 1)
def sIndex (a : Str) : Val → Option Val
  | .str b => (match Builtin.Str.occurrences a b 0 a.length 1 with
    | i :: _ => some (.int (i : Nat))
    | [] => none)
  | _ => none
/-- list.index of data -/
def indexD : Val → Val → Option Val
  | .lst ys, x => if isDat x && Nat.ble (dep x) 60 && Nat.ble (deps ys) 60 then (findEq x ys 0).map fun n => .int n else none
  | _, _ => none
def meth : Me → Val → List Val → Option Val
  | .index, .str a, [x] => sIndex a x
  | .index, v, [x] => match seqOf v with
    | some ys => if flat x && allFlat ys then (findEq x ys 0).map fun n => .int n else indexD v x
    | none => none
  | _, _, _ => none
def zipV : List Val → List Val → List Val
  | x :: xs, y :: ys => .tup [x, y] :: zipV xs ys
  | _, _ => []
def enumV (i : Int) : List Val → List Val
  | [] => []
  | x :: xs => .tup [.int i, x] :: enumV (i + 1) xs
def walkV : Val → Option (List Val)
  | .lst xs => some xs
  | .tup xs => some xs
  | .dct ks _ => some ks
  | .str s => some (s.cps.toList.map fun c => .str ⟨#[c]⟩)
  | _ => none
def onL1 (f : Val → Option (List Val)) (l : List Val) : Option (List Val) := List.rec (motive := fun _ => Option (List Val)) none (fun v r _ => List.rec (motive := fun _ => Option (List Val)) (f v) (fun _ _ _ => none) r) l
@[simp] theorem onL1_one (f : Val → Option (List Val)) (v : Val) : onL1 f [v] = f v := rfl
def zipVs : List Val → Option (List Val)
  | [.lst xs, .lst ys] => some (zipV xs ys)
  | [.tup xs, .tup ys] => some (zipV xs ys)
  | [.lst xs, .tup ys] => some (zipV xs ys)
  | _ => none
def items : Src → List Val → Option (List Val)
  | .plain => onL1 walkV
  | .range => rangeV
  | .enum => onL1 fun v => omap (enumV 0) (lstOf v)
  | .zip => zipVs
  | .rev => onL1 fun v => omap List.reverse (seqOf v)
  | _ => fun _ => none
/-- a slice without a step -/
def partOf : List Val → Option (Option Int)
  | [] => some none
  | [.int i] => some (some i)
  | _ => none
def cutL {α : Type} (xs : List α) (lo hi : Option Int) : List α := (xs.drop (HT.sIx xs.length 0 lo)).take (HT.sIx xs.length xs.length hi - HT.sIx xs.length 0 lo)
def cutVal (lo hi : Option Int) : Val → Option Val
  | .lst xs => some (.lst (cutL xs lo hi))
  | .tup xs => some (.tup (cutL xs lo hi))
  | _ => none
def slcV (v : Val) (lo hi : List Val) : Option Val := obind (partOf lo) fun l => obind (partOf hi) fun h => cutVal l h v
def rvV : Val → Option Val
  | .lst xs => some (.lst xs.reverse)
  | .tup xs => some (.tup xs.reverse)
  | _ => none
def idxS (s : Str) (i : Int) : Option Val := match L2.ixN s.cps.toList.length i with
  | some j => (match s.cps.toList[j]? with
    | some c => some (.str ⟨#[c]⟩)
    | none => none)
  | none => none
def idxV (v w : Val) : Option Val := match w with
  | .int i => (match v with
    | .lst xs => L2.atI xs i
    | .tup xs => L2.atI xs i
    | .str s => idxS s i
    | _ => none)
  | _ => none

mutual
def noLst : Val → Bool
  | .undef => true
  | .non => true
  | .bl _ => true
  | .int _ => true
  | .str _ => true
  | .tup xs => noLsts xs
  | .lst _ => false
  | .dct _ _ => false
  | .opq _ _ => false
def noLsts : List Val → Bool
  | [] => true
  | x :: xs => noLst x && noLsts xs
end
/-- what a call with borrowed lists may hand back -/
def okRes : Val → Bool
  | .lst xs => noLsts xs
  | v => noLst v
/-- 0: nothing borrowed; 1: no list is handed back; 2: a new list of things without lists -/
def okBrw (b : Nat) (v : Val) (outs : List Val) : Bool := Nat.rec (motive := fun _ => Bool) true (fun n _ => outs.all okRes && Nat.rec (motive := fun _ => Bool) (noLst v) (fun _ _ => okRes v) n) b
@[simp] theorem okBrw_zero (v : Val) (outs : List Val) : okBrw 0 v outs = true := rfl
@[simp] theorem okBrw_one (v : Val) (outs : List Val) : okBrw 1 v outs = (outs.all okRes && noLst v) := rfl
@[simp] theorem okBrw_two (v : Val) (outs : List Val) : okBrw 2 v outs = (outs.all okRes && okRes v) := rfl

def okX (b : Nat) (outs : List Val) : Bool := Nat.rec (motive := fun _ => Bool) true (fun _ _ => outs.all okRes) b
@[simp] theorem okX_zero (outs : List Val) : okX 0 outs = true := rfl
@[simp] theorem okX_succ (b : Nat) (outs : List Val) : okX (b + 1) outs = outs.all okRes := rfl
/-! ### the run -/
def ofO (o : Option Val) (e : Env) : R Val := Option.rec (motive := fun _ => R Val) .bad (fun v => .ok v e) o
@[simp] theorem ofO_some (v : Val) (e : Env) : ofO (some v) e = .ok v e := rfl
@[simp] theorem ofO_none (e : Env) : ofO none e = .bad := rfl
def ofB (o : Option Bool) (e : Env) : R Val := Option.rec (motive := fun _ => R Val) .bad (fun v => .ok (.bl v) e) o
@[simp] theorem ofB_some (v : Bool) (e : Env) : ofB (some v) e = .ok (.bl v) e := rfl
@[simp] theorem ofB_none (e : Env) : ofB none e = .bad := rfl
/-- the arguments io are read last -/
def fill1 : E → Val → Env → Val
  | .io i, _, e => gt e i
  | _, v, _ => v
def fill : List E → List Val → Env → List Val
  | a :: es, v :: vs, e => fill1 a v e :: fill es vs e
  | _, _, _ => []
/-! ### combinators -/
def bindR {α β : Type} (r : R α) (k : α → Env → R β) : R β := R.rec (motive := fun _ => R β) k .exc .bad r
@[simp] theorem bindR_ok {α β : Type} (a : α) (e : Env) (k : α → Env → R β) : bindR (.ok a e) k = k a e := rfl
@[simp] theorem bindR_exc {α β : Type} (x : Ex) (e : Env) (k : α → Env → R β) : bindR (.exc x e) k = .exc x e := rfl
@[simp] theorem bindR_bad {α β : Type} (k : α → Env → R β) : bindR .bad k = .bad := rfl
/-- by kind: a truth value, an int -/
def asB {β : Type} (v : Val) (k : Bool → β) (z : β) : β := Val.rec (motive_1 := fun _ => β) (motive_2 := fun _ => β) z z k (fun _ => z) (fun _ => z) (fun _ _ => z) (fun _ _ => z) (fun _ _ _ _ => z) (fun _ _ _ => z) z (fun _ _ _ _ => z) v
@[simp] theorem asB_bl {β : Type} (b : Bool) (k : Bool → β) (z : β) : asB (.bl b) k z = k b := rfl
def asI {β : Type} (v : Val) (k : Int → β) (z : β) : β := Val.rec (motive_1 := fun _ => β) (motive_2 := fun _ => β) z z (fun _ => z) k (fun _ => z) (fun _ _ => z) (fun _ _ => z) (fun _ _ _ _ => z) (fun _ _ _ => z) z (fun _ _ _ _ => z) v
@[simp] theorem asI_int {β : Type} (i : Int) (k : Int → β) (z : β) : asI (.int i) k z = k i := rfl
def bindB {β : Type} (r : R Val) (k : Bool → Env → R β) : R β := R.rec (motive := fun _ => R β) (fun v e => asB v (fun b => k b e) .bad) .exc .bad r
@[simp] theorem bindB_ok {β : Type} (b : Bool) (e : Env) (k : Bool → Env → R β) : bindB (.ok (.bl b) e) k = k b e := rfl
@[simp] theorem bindB_exc {β : Type} (x : Ex) (e : Env) (k : Bool → Env → R β) : bindB (.exc x e) k = .exc x e := rfl
@[simp] theorem bindB_bad {β : Type} (k : Bool → Env → R β) : bindB .bad k = .bad := rfl
def bindI {β : Type} (r : R Val) (k : Int → Env → R β) : R β := R.rec (motive := fun _ => R β) (fun v e => asI v (fun b => k b e) .bad) .exc .bad r
@[simp] theorem bindI_ok {β : Type} (b : Int) (e : Env) (k : Int → Env → R β) : bindI (.ok (.int b) e) k = k b e := rfl
@[simp] theorem bindI_exc {β : Type} (x : Ex) (e : Env) (k : Int → Env → R β) : bindI (.exc x e) k = .exc x e := rfl
@[simp] theorem bindI_bad {β : Type} (k : Int → Env → R β) : bindI .bad k = .bad := rfl
/-- if -/
def sel {β : Type} (c : Bool) (t f : β) : β := Bool.rec (motive := fun _ => β) f t c
@[simp] theorem sel_true {β : Type} (t f : β) : sel true t f = t := rfl
@[simp] theorem sel_false {β : Type} (t f : β) : sel false t f = f := rfl
def undefd {β : Type} (v : Val) (z k : β) : β := Val.rec (motive_1 := fun _ => β) (motive_2 := fun _ => β) z k (fun _ => k) (fun _ => k) (fun _ => k) (fun _ _ => k) (fun _ _ => k) (fun _ _ _ _ => k) (fun _ _ _ => k) k (fun _ _ _ _ => k) v
@[simp] theorem undefd_undef {β : Type} (z k : β) : undefd .undef z k = z := rfl
@[simp] theorem undefd_non {β : Type} (z k : β) : undefd .non z k = k := rfl
@[simp] theorem undefd_bl {β : Type} (b : Bool) (z k : β) : undefd (.bl b) z k = k := rfl
@[simp] theorem undefd_int {β : Type} (b : Int) (z k : β) : undefd (.int b) z k = k := rfl
@[simp] theorem undefd_str {β : Type} (b : Str) (z k : β) : undefd (.str b) z k = k := rfl
@[simp] theorem undefd_tup {β : Type} (b : List Val) (z k : β) : undefd (.tup b) z k = k := rfl
@[simp] theorem undefd_lst {β : Type} (b : List Val) (z k : β) : undefd (.lst b) z k = k := rfl
@[simp] theorem undefd_dct {β : Type} (b c : List Val) (z k : β) : undefd (.dct b c) z k = k := rfl
@[simp] theorem undefd_opq {β : Type} (n : Nat) (b : List Val) (z k : β) : undefd (.opq n b) z k = k := rfl
/-- no slot is empty -/
def defd (l : List Val) : Bool := List.rec (motive := fun _ => Bool) true (fun v _ ih => undefd v false ih) l
@[simp] theorem defd_nil : defd [] = true := rfl
@[simp] theorem defd_cons (v : Val) (l : List Val) : defd (v :: l) = undefd v false (defd l) := rfl
def vVar (i : Nat) (e : Env) : R Val := undefd (gt e i) .bad (.ok (gt e i) e)
def vTup (r : Env → R (List Val)) (e : Env) : R Val := bindR (r e) fun vs e1 => .ok (.tup vs) e1
def vLst (r : Env → R (List Val)) (e : Env) : R Val := bindR (r e) fun vs e1 => .ok (.lst vs) e1
def vBin (o : Bop) (a b : Env → R Val) (e : Env) : R Val := bindR (a e) fun v e1 => bindR (b e1) fun w e2 => ofO (bop o v w) e2
def vNeg (a : Env → R Val) (e : Env) : R Val := bindI (a e) fun i e1 => .ok (.int (-i)) e1
def vCmp (o : Cop) (a b : Env → R Val) (e : Env) : R Val := bindR (a e) fun v e1 => bindR (b e1) fun w e2 => ofB (cop o v w) e2
def condB (o : Option Bool) (t f : R Val) : R Val := match o with
  | some true => t
  | some false => f
  | none => .bad
def vCmp2 (o o2 : Cop) (a b c : Env → R Val) (e : Env) : R Val := bindR (a e) fun v e1 => bindR (b e1) fun w e2 =>
  condB (cop o v w) (bindR (c e2) fun z e3 => ofB (cop o2 w z) e3) (.ok (.bl false) e2)
def vAnd (a b : Env → R Val) (e : Env) : R Val := bindB (a e) fun c e1 => sel c (b e1) (.ok (.bl false) e1)
def vOr (a b : Env → R Val) (e : Env) : R Val := bindB (a e) fun c e1 => sel c (.ok (.bl true) e1) (b e1)
def vNot (a : Env → R Val) (e : Env) : R Val := bindB (a e) fun c e1 => .ok (.bl (!c)) e1
def vIte (c a b : Env → R Val) (e : Env) : R Val := bindB (c e) fun t e1 => sel t (a e1) (b e1)
def vIdx (a b : Env → R Val) (e : Env) : R Val := bindR (a e) fun v e1 => bindR (b e1) fun w e2 => ofO (idxV v w) e2
def okPart (o : Option (Option Int)) (r : R Val) : R Val := Option.rec (motive := fun _ => R Val) .bad (fun _ => r) o
@[simp] theorem okPart_some (p : Option Int) (r : R Val) : okPart (some p) r = r := rfl
def vSlc (a : Env → R Val) (lo hi : Env → R (List Val)) (e : Env) : R Val := bindR (a e) fun v e1 => bindR (lo e1) fun l e2 => okPart (partOf l) (bindR (hi e2) fun h e3 => ofO (slcV v l h) e3)
def vRv (a : Env → R Val) (e : Env) : R Val := bindR (a e) fun v e1 => ofO (rvV v) e1
def okCall (ok : Bool) (v : Val) (o : Option Env) : R Val := Option.rec (motive := fun _ => R Val) .bad (fun e2 => sel ok (.ok v e2) .bad) o
@[simp] theorem okCall_some (v : Val) (e : Env) : okCall true v (some e) = .ok v e := rfl
def excCall (x : Ex) (o : Option Env) : R Val := Option.rec (motive := fun _ => R Val) .bad (fun e2 => .exc x e2) o
@[simp] theorem excCall_some (x : Ex) (e : Env) : excCall x (some e) = .exc x e := rfl
def vBack (js : List Nat) (brw : Nat) (e1 : Env) (r : RC) : R Val := RC.rec (motive := fun _ => R Val) (fun v outs => okCall (okBrw brw v outs) v (puts js outs e1)) (fun x outs => sel (okX brw outs) (excCall x (puts js outs e1)) .bad) .bad r
@[simp] theorem vBack_ok (js : List Nat) (brw : Nat) (e1 : Env) (v : Val) (outs : List Val) : vBack js brw e1 (.ok v outs) = okCall (okBrw brw v outs) v (puts js outs e1) := rfl
@[simp] theorem vBack_exc (js : List Nat) (brw : Nat) (e1 : Env) (x : Ex) (outs : List Val) : vBack js brw e1 (.exc x outs) = sel (okX brw outs) (excCall x (puts js outs e1)) .bad := rfl
@[simp] theorem vBack_bad (js : List Nat) (brw : Nat) (e1 : Env) : vBack js brw e1 .bad = .bad := rfl
def vCall (C : Nat → List Val → RC) (f : Nat) (args : List E) (r : Env → R (List Val)) (js : List Nat) (brw : Nat) (e : Env) : R Val :=
  bindR (r e) fun vs e1 => sel (defd (fill args vs e1)) (vBack js brw e1 (C f (fill args vs e1))) .bad
def vBi (b : Bi) (r : Env → R (List Val)) (e : Env) : R Val := bindR (r e) fun vs e1 => ofO (bifn b vs) e1
def seqThen (v : Val) (r : R Val) : R Val := Val.rec (motive_1 := fun _ => R Val) (motive_2 := fun _ => R Val) .bad .bad (fun _ => .bad) (fun _ => .bad) (fun _ => r) (fun _ _ => r) (fun _ _ => r) (fun _ _ _ _ => .bad) (fun _ _ _ => .bad) .bad (fun _ _ _ _ => .bad) v
@[simp] theorem seqThen_lst (xs : List Val) (r : R Val) : seqThen (.lst xs) r = r := rfl
@[simp] theorem seqThen_tup (xs : List Val) (r : R Val) : seqThen (.tup xs) r = r := rfl
@[simp] theorem seqThen_str (xs : Str) (r : R Val) : seqThen (.str xs) r = r := rfl
def vMe (m : Me) (a : Env → R Val) (r : Env → R (List Val)) (e : Env) : R Val := bindR (a e) fun v e1 => seqThen v <| bindR (r e1) fun vs e2 => ofO (meth m v vs) e2
def popL : Val → Option (Val × Val)
  | .lst xs => (match xs.getLast? with
    | some v => some (v, .lst xs.dropLast)
    | none => none)
  | _ => none
def popAtL (k : Int) : Val → Option (Val × Val)
  | .lst xs => if Nat.ble xs.length LIM then (match L2.ixN xs.length k with
    | some j => (match xs[j]? with
      | some v => some (v, .lst (xs.eraseIdx j))
      | none => none)
    | none => none) else none
  | _ => none
def popped (i : Nat) (o : Option (Val × Val)) (e : Env) : R Val := match o with
  | some p => .ok p.1 (st e i p.2)
  | none => .bad
def vPop (i : Nat) (e : Env) : R Val := popped i (popL (gt e i)) e
def lstThen (v : Val) (r : R Val) : R Val := Val.rec (motive_1 := fun _ => R Val) (motive_2 := fun _ => R Val) .bad .bad (fun _ => .bad) (fun _ => .bad) (fun _ => .bad) (fun _ _ => .bad) (fun _ _ => r) (fun _ _ _ _ => .bad) (fun _ _ _ => .bad) .bad (fun _ _ _ _ => .bad) v
@[simp] theorem lstThen_lst (xs : List Val) (r : R Val) : lstThen (.lst xs) r = r := rfl
def vPopAt (i : Nat) (a : Env → R Val) (e : Env) : R Val := lstThen (gt e i) <| bindI (a e) fun k e1 => popped i (popAtL k (gt e1 i)) e1
/-- a comprehension's turns -/
def bindX {β : Type} (o : Option Env) (k : Env → R β) : R β := Option.rec (motive := fun _ => R β) .bad k o
@[simp] theorem bindX_some {β : Type} (e : Env) (k : Env → R β) : bindX (some e) k = k e := rfl
/-- nothing raised here -/
def calm {β : Type} (r : R β) : R β := R.rec (motive := fun _ => R β) .ok (fun _ _ => .bad) .bad r
@[simp] theorem calm_ok {β : Type} (a : β) (e : Env) : calm (.ok a e) = .ok a e := rfl
def compN (t : Tgt) (cond elt : Env → R Val) (xs : List Val) : Env → R (List Val) := List.rec (motive := fun _ => Env → R (List Val)) (fun e => .ok [] e)
  (fun x _ ih e => bindX (bindT t x e) fun e1 => bindB (calm (cond e1)) fun c e2 =>
    sel c (bindR (calm (elt e2)) fun v e3 => bindR (ih (kills t.slots e3)) fun vs e4 => .ok (v :: vs) e4) (ih (kills t.slots e2))) xs
@[simp] theorem compN_nil (t : Tgt) (cond elt : Env → R Val) (e : Env) : compN t cond elt [] e = .ok [] e := rfl
theorem compN_cons (t : Tgt) (cond elt : Env → R Val) (x : Val) (xs : List Val) (e : Env) : compN t cond elt (x :: xs) e =
  bindX (bindT t x e) fun e1 => bindB (calm (cond e1)) fun c e2 => sel c (bindR (calm (elt e2)) fun v e3 => bindR (compN t cond elt xs (kills t.slots e3)) fun vs e4 => .ok (v :: vs) e4) (compN t cond elt xs (kills t.slots e2)) := rfl
def compI (t : Tgt) (cond elt : Env → R Val) (e1 : Env) (o : Option (List Val)) : R Val := match o with
  | some xs => sel (Nat.ble xs.length LIM) (bindR (compN t cond elt xs (kills t.slots e1)) fun ys e2 => .ok (.lst ys) (rst e1 t.slots e2)) .bad
  | none => .bad
def vComp (t : Tgt) (k : Src) (srcs : Env → R (List Val)) (cond elt : Env → R Val) (e : Env) : R Val :=
  bindR (srcs e) fun vs e1 => compI t cond elt e1 (items k vs)
def vCons (a : Env → R Val) (r : Env → R (List Val)) (e : Env) : R (List Val) := bindR (a e) fun v e1 => bindR (r e1) fun vs e2 => .ok (v :: vs) e2
/-- a test that may be absent -/
def testOf (r : Env → R (List Val)) (e : Env) : R Val := bindR (r e) fun vs e1 => List.rec (motive := fun _ => R Val) (.ok (.bl true) e1) (fun v r _ => List.rec (motive := fun _ => R Val) (.ok v e1) (fun _ _ _ => .bad) r) vs
section
variable (C : Nat → List Val → RC)
def ev (a : E) : Env → R Val := E.rec (motive_1 := fun _ => Env → R Val) (motive_2 := fun _ => Env → R (List Val))
  (int := fun i e => .ok (.int i) e) (str := fun s e => .ok (.str s) e) (bl := fun b e => .ok (.bl b) e) (non := fun e => .ok .non e)
  (cst := fun _ v e => .ok v e) (var := vVar) (io := fun i e => undefd (gt e i) .bad (.ok .non e))
  (tup := fun _ r => vTup r) (lst := fun _ r => vLst r) (bin := fun o _ _ a b => vBin o a b) (neg := fun _ a => vNeg a)
  (cmp := fun o _ _ a b => vCmp o a b) (cmp2 := fun o o2 _ _ _ a b c => vCmp2 o o2 a b c)
  (and := fun _ _ a b => vAnd a b) (or := fun _ _ a b => vOr a b) (not := fun _ a => vNot a) (ite := fun _ _ _ c a b => vIte c a b)
  (idx := fun _ _ a b => vIdx a b) (slc := fun _ _ _ a lo hi => vSlc a lo hi) (rv := fun _ a => vRv a)
  (call := fun f args js brw r => vCall C f args r js brw) (bi := fun b _ r => vBi b r) (me := fun m _ _ a r => vMe m a r)
  (pop := vPop) (popAt := fun i _ a => vPopAt i a) (comp := fun t k _ _ _ r c a => vComp t k r (testOf c) a)
  (nil := fun e => .ok [] e) (cons := fun _ _ a r => vCons a r) a
def evs (l : List E) : Env → R (List Val) := List.rec (motive := fun _ => Env → R (List Val)) (fun e => .ok [] e) (fun a _ r => vCons (ev C a) r) l
theorem evs_aux (l : List E) : evs C l = E.rec_1 (motive_1 := fun _ => Env → R Val) (motive_2 := fun _ => Env → R (List Val))
  (fun i e => .ok (.int i) e) (fun s e => .ok (.str s) e) (fun b e => .ok (.bl b) e) (fun e => .ok .non e)
  (fun _ v e => .ok v e) vVar (fun i e => undefd (gt e i) .bad (.ok .non e))
  (fun _ r => vTup r) (fun _ r => vLst r) (fun o _ _ a b => vBin o a b) (fun _ a => vNeg a)
  (fun o _ _ a b => vCmp o a b) (fun o o2 _ _ _ a b c => vCmp2 o o2 a b c)
  (fun _ _ a b => vAnd a b) (fun _ _ a b => vOr a b) (fun _ a => vNot a) (fun _ _ _ c a b => vIte c a b)
  (fun _ _ a b => vIdx a b) (fun _ _ _ a lo hi => vSlc a lo hi) (fun _ a => vRv a)
  (fun f args js brw r => vCall C f args r js brw) (fun b _ r => vBi b r) (fun m _ _ a r => vMe m a r)
  vPop (fun i _ a => vPopAt i a) (fun t k _ _ _ r c a => vComp t k r (testOf c) a)
  (fun e => .ok [] e) (fun _ _ a r => vCons a r) l := by
  induction l with
  | nil => rfl
  | cons a r ih =>
    show vCons (ev C a) (evs C r) = vCons _ _
    rw [ih]
    rfl
@[simp] theorem evs_nil (e : Env) : evs C [] e = .ok [] e := rfl
@[simp] theorem evs_cons (a : E) (r : List E) (e : Env) : evs C (a :: r) e = vCons (ev C a) (evs C r) e := rfl
@[simp] theorem ev_non (e : Env) : ev C .non e = .ok .non e := rfl
@[simp] theorem ev_int (i : Int) (e : Env) : ev C (.int i) e = .ok (.int i) e := rfl
@[simp] theorem ev_str (s : Str) (e : Env) : ev C (.str s) e = .ok (.str s) e := rfl
@[simp] theorem ev_bl (b : Bool) (e : Env) : ev C (.bl b) e = .ok (.bl b) e := rfl
@[simp] theorem ev_cst (x : Str) (v : Val) (e : Env) : ev C (.cst x v) e = .ok v e := rfl
@[simp] theorem ev_var (i : Nat) (e : Env) : ev C (.var i) e = vVar i e := rfl
@[simp] theorem ev_io (i : Nat) (e : Env) : ev C (.io i) e = undefd (gt e i) .bad (.ok .non e) := rfl
@[simp] theorem ev_tup (es : List E) (e : Env) : ev C (.tup es) e = vTup (evs C es) e := by simp only [evs_aux]; rfl
@[simp] theorem ev_lst (es : List E) (e : Env) : ev C (.lst es) e = vLst (evs C es) e := by simp only [evs_aux]; rfl
@[simp] theorem ev_bin (o : Bop) (a b : E) (e : Env) : ev C (.bin o a b) e = vBin o (ev C a) (ev C b) e := rfl
@[simp] theorem ev_neg (a : E) (e : Env) : ev C (.neg a) e = vNeg (ev C a) e := rfl
@[simp] theorem ev_cmp (o : Cop) (a b : E) (e : Env) : ev C (.cmp o a b) e = vCmp o (ev C a) (ev C b) e := rfl
@[simp] theorem ev_cmp2 (o o2 : Cop) (a b c : E) (e : Env) : ev C (.cmp2 o o2 a b c) e = vCmp2 o o2 (ev C a) (ev C b) (ev C c) e := rfl
@[simp] theorem ev_and (a b : E) (e : Env) : ev C (.and a b) e = vAnd (ev C a) (ev C b) e := rfl
@[simp] theorem ev_or (a b : E) (e : Env) : ev C (.or a b) e = vOr (ev C a) (ev C b) e := rfl
@[simp] theorem ev_not (a : E) (e : Env) : ev C (.not a) e = vNot (ev C a) e := rfl
@[simp] theorem ev_ite (c a b : E) (e : Env) : ev C (.ite c a b) e = vIte (ev C c) (ev C a) (ev C b) e := rfl
@[simp] theorem ev_idx (a b : E) (e : Env) : ev C (.idx a b) e = vIdx (ev C a) (ev C b) e := rfl
@[simp] theorem ev_slc (a : E) (lo hi : List E) (e : Env) : ev C (.slc a lo hi) e = vSlc (ev C a) (evs C lo) (evs C hi) e := by simp only [evs_aux]; rfl
@[simp] theorem ev_rv (a : E) (e : Env) : ev C (.rv a) e = vRv (ev C a) e := rfl
@[simp] theorem ev_call (f : Nat) (args : List E) (js : List Nat) (brw : Nat) (e : Env) : ev C (.call f args js brw) e = vCall C f args (evs C args) js brw e := by simp only [evs_aux]; rfl
@[simp] theorem ev_bi (b : Bi) (args : List E) (e : Env) : ev C (.bi b args) e = vBi b (evs C args) e := by simp only [evs_aux]; rfl
@[simp] theorem ev_me (m : Me) (a : E) (args : List E) (e : Env) : ev C (.me m a args) e = vMe m (ev C a) (evs C args) e := by simp only [evs_aux]; rfl
@[simp] theorem ev_pop (i : Nat) (e : Env) : ev C (.pop i) e = vPop i e := rfl
@[simp] theorem ev_popAt (i : Nat) (a : E) (e : Env) : ev C (.popAt i a) e = vPopAt i (ev C a) e := rfl
@[simp] theorem ev_comp (t : Tgt) (k : Src) (srcs cond : List E) (elt : E) (e : Env) : ev C (.comp t k srcs cond elt) e = vComp t k (evs C srcs) (testOf (evs C cond)) (ev C elt) e := by simp only [evs_aux]; rfl
end
def bindO {α : Type} (r : R α) (k : α → Env → O) : O := R.rec (motive := fun _ => O) k .exc .bad r
@[simp] theorem bindO_ok {α : Type} (a : α) (e : Env) (k : α → Env → O) : bindO (.ok a e) k = k a e := rfl
@[simp] theorem bindO_exc {α : Type} (x : Ex) (e : Env) (k : α → Env → O) : bindO (.exc x e) k = .exc x e := rfl
@[simp] theorem bindO_bad {α : Type} (k : α → Env → O) : bindO .bad k = .bad := rfl
def bindOB (r : R Val) (k : Bool → Env → O) : O := R.rec (motive := fun _ => O) (fun v e => asB v (fun b => k b e) .bad) .exc .bad r
@[simp] theorem bindOB_ok (b : Bool) (e : Env) (k : Bool → Env → O) : bindOB (.ok (.bl b) e) k = k b e := rfl
@[simp] theorem bindOB_exc (x : Ex) (e : Env) (k : Bool → Env → O) : bindOB (.exc x e) k = .exc x e := rfl
@[simp] theorem bindOB_bad (k : Bool → Env → O) : bindOB .bad k = .bad := rfl
def bindOI (r : R Val) (k : Int → Env → O) : O := R.rec (motive := fun _ => O) (fun v e => asI v (fun b => k b e) .bad) .exc .bad r
@[simp] theorem bindOI_ok (b : Int) (e : Env) (k : Int → Env → O) : bindOI (.ok (.int b) e) k = k b e := rfl
@[simp] theorem bindOI_exc (x : Ex) (e : Env) (k : Int → Env → O) : bindOI (.exc x e) k = .exc x e := rfl
@[simp] theorem bindOI_bad (k : Int → Env → O) : bindOI .bad k = .bad := rfl
def nxO (o : Option Env) : O := Option.rec (motive := fun _ => O) .bad .nx o
@[simp] theorem nxO_some (e : Env) : nxO (some e) = .nx e := rfl
/-- behind a statement -/
def seqO (o : O) (k : Env → O) : O := O.rec (motive := fun _ => O) k .ret .brk .exc .bad o
@[simp] theorem seqO_nx (e : Env) (k : Env → O) : seqO (.nx e) k = k e := rfl
@[simp] theorem seqO_ret (v : Val) (e : Env) (k : Env → O) : seqO (.ret v e) k = .ret v e := rfl
@[simp] theorem seqO_brk (e : Env) (k : Env → O) : seqO (.brk e) k = .brk e := rfl
@[simp] theorem seqO_exc (x : Ex) (e : Env) (k : Env → O) : seqO (.exc x e) k = .exc x e := rfl
@[simp] theorem seqO_bad (k : Env → O) : seqO .bad k = .bad := rfl
/-- behind a turn -/
def turnO (o : O) (k : Env → O) : O := O.rec (motive := fun _ => O) k .ret .nx .exc .bad o
@[simp] theorem turnO_nx (e : Env) (k : Env → O) : turnO (.nx e) k = k e := rfl
@[simp] theorem turnO_ret (v : Val) (e : Env) (k : Env → O) : turnO (.ret v e) k = .ret v e := rfl
@[simp] theorem turnO_brk (e : Env) (k : Env → O) : turnO (.brk e) k = .nx e := rfl
@[simp] theorem turnO_exc (x : Ex) (e : Env) (k : Env → O) : turnO (.exc x e) k = .exc x e := rfl
@[simp] theorem turnO_bad (k : Env → O) : turnO .bad k = .bad := rfl
def bindXO (o : Option Env) (k : Env → O) : O := Option.rec (motive := fun _ => O) .bad k o
@[simp] theorem bindXO_some (e : Env) (k : Env → O) : bindXO (some e) k = k e := rfl
def forN (t : Tgt) (body : Env → O) (xs : List Val) : Env → O := List.rec (motive := fun _ => Env → O) (fun e => .nx e)
  (fun x _ ih e => bindXO (bindT t x e) fun e1 => turnO (body e1) ih) xs
@[simp] theorem forN_nil (t : Tgt) (body : Env → O) (e : Env) : forN t body [] e = .nx e := rfl
theorem forN_cons (t : Tgt) (body : Env → O) (x : Val) (xs : List Val) (e : Env) : forN t body (x :: xs) e = bindXO (bindT t x e) fun e1 => turnO (body e1) (forN t body xs) := rfl
def forI (t : Tgt) (body : Env → O) (e : Env) (o : Option (List Val)) : O := Option.rec (motive := fun _ => O) .bad (fun xs => forN t body xs e) o
@[simp] theorem forI_some (t : Tgt) (body : Env → O) (e : Env) (xs : List Val) : forI t body e (some xs) = forN t body xs e := rfl
def whlN (c : Env → R Val) (body : Env → O) (n : Nat) : Env → O := Nat.rec (motive := fun _ => Env → O) (fun _ => .bad)
  (fun _ ih e => bindOB (c e) fun t e1 => sel t (turnO (body e1) ih) (.nx e1)) n
theorem whlN_succ (c : Env → R Val) (body : Env → O) (n : Nat) (e : Env) : whlN c body (n + 1) e = bindOB (c e) fun t e1 => sel t (turnO (body e1) (whlN c body n)) (.nx e1) := rfl
def setL (xs : List Val) (k : Int) (v : Val) : Option (List Val) := match L2.ixN xs.length k with
  | some j => some (xs.set j v)
  | none => none
def setV (w : Val) (k : Int) (v : Val) : Option Val := match w with
  | .lst xs => (setL xs k v).map .lst
  | _ => none
def appV (w v : Val) : Option Val := match w with
  | .lst xs => if Nat.ble xs.length LIM then some (.lst (xs ++ [v])) else none
  | _ => none
/-- w[k] changed by f -/
def onAt (w : Val) (k : Int) (f : Val → Option Val) : Option Val := match w with
  | .lst xs => (match L2.atI xs k with
    | some z => (match f z with
      | some u => setV w k u
      | none => none)
    | none => none)
  | _ => none
def stO (i : Nat) (o : Option Val) (e : Env) : O := match o with
  | some v => .nx (st e i v)
  | none => .bad
def xAsg (i : Nat) (a : Env → R Val) (e : Env) : O := bindO (a e) fun v e1 => .nx (st e1 i v)
def xMv (i j : Nat) (e : Env) : O := undefd (gt e j) .bad (.nx (st (st e j .undef) i (gt e j)))
def tupOf : Val → Option (List Val)
  | .tup xs => some xs
  | _ => none
def putsO (is : List Nat) (o : Option (List Val)) (e : Env) : O := match o with
  | some xs => nxO (puts is xs e)
  | none => .bad
def xAsgT (is : List Nat) (a : Env → R Val) (e : Env) : O := bindO (a e) fun v e1 => putsO is (tupOf v) e1
def xPar (is : List Nat) (r : Env → R (List Val)) (e : Env) : O := bindO (r e) fun vs e1 => nxO (puts is vs e1)

def lstThenO (v : Val) (r : O) : O := Val.rec (motive_1 := fun _ => O) (motive_2 := fun _ => O) .bad .bad (fun _ => .bad) (fun _ => .bad) (fun _ => .bad) (fun _ _ => .bad) (fun _ _ => r) (fun _ _ _ _ => .bad) (fun _ _ _ => .bad) .bad (fun _ _ _ _ => .bad) v
@[simp] theorem lstThenO_lst (xs : List Val) (r : O) : lstThenO (.lst xs) r = r := rfl
/-- an item is there -/
def atThenO (v : Val) (k : Int) (r : O) : O := match v with
  | .lst xs => (match L2.atI xs k with
    | some _ => r
    | none => .bad)
  | _ => .bad
def xSub1 (i : Nat) (ix v : Env → R Val) (e : Env) : O := bindO (v e) fun y e1 => lstThenO (gt e1 i) (bindOI (ix e1) fun k e2 => stO i (setV (gt e2 i) k y) e2)
def xSub2 (i : Nat) (ix iy v : Env → R Val) (e : Env) : O := bindO (v e) fun y e1 => lstThenO (gt e1 i) (bindOI (ix e1) fun k e2 => atThenO (gt e2 i) k (bindOI (iy e2) fun l e3 =>
  stO i (onAt (gt e3 i) k fun z => setV z l y) e3))
def xApp (i : Nat) (v : Env → R Val) (e : Env) : O := lstThenO (gt e i) <| bindO (v e) fun y e1 => stO i (appV (gt e1 i) y) e1
def isLst : Val → Bool
  | .lst _ => true
  | _ => false
/-- an item is there, and it is a list -/
def atLstO (v : Val) (k : Int) (r : O) : O := match v with
  | .lst xs => (match L2.atI xs k with
    | some z => sel (isLst z) r .bad
    | none => .bad)
  | _ => .bad
def xApp1 (i : Nat) (ix v : Env → R Val) (e : Env) : O := lstThenO (gt e i) (bindOI (ix e) fun k e1 => atLstO (gt e1 i) k (bindO (v e1) fun y e2 => stO i (onAt (gt e2 i) k fun z => appV z y) e2))
def xEx (a : Env → R Val) (e : Env) : O := bindO (a e) fun _ e1 => .nx e1
def xIte (c : Env → R Val) (a b : Env → O) (e : Env) : O := bindOB (c e) fun t e1 => sel t (a e1) (b e1)
def xLoop (t : Tgt) (k : Src) (srcs : Env → R (List Val)) (b : Env → O) (e : Env) : O := bindO (srcs e) fun vs e1 => forI t b e1 (items k vs)
def xRet (a : Env → R Val) (e : Env) : O := bindO (a e) fun v e1 => .ret v e1
def raised (c : Nat) (vs : List Val) (e : Env) : O := match vs with
  | [v] => .exc ⟨c, v⟩ e
  | _ => .bad
def xRaise (c : Nat) (r : Env → R (List Val)) (e : Env) : O := bindO (r e) fun vs e1 => raised c vs e1
section
variable (C : Nat → List Val → RC)
def ex (a : S) : Env → O := S.rec (motive_1 := fun _ => Env → O) (motive_2 := fun _ => Env → O)
  (fun i _ a => xAsg i (ev C a)) xMv (fun _ e => .nx e) (fun is a => xAsgT is (ev C a)) (fun is _ es => xPar is (evs C es))
  (fun i ix v => xSub1 i (ev C ix) (ev C v)) (fun i ix iy v => xSub2 i (ev C ix) (ev C iy) (ev C v)) (fun i v => xApp i (ev C v))
  (fun i ix v => xApp1 i (ev C ix) (ev C v)) (fun a => xEx (ev C a)) (fun c _ _ a b => xIte (ev C c) a b)
  (fun n c _ b => whlN (ev C c) b n) (fun t k srcs _ b => xLoop t k (evs C srcs) b) (fun a => xRet (ev C a)) (fun e => .ret .non e)
  (fun e => .brk e) (fun e => .nx e) (fun _ _ _ => .bad) (fun is e => .nx (kills is e))
  (fun e => .nx e) (fun _ _ a r e => seqO (a e) r) a
def exs (l : List S) : Env → O := List.rec (motive := fun _ => Env → O) (fun e => .nx e) (fun a _ r e => seqO (ex C a e) r) l
theorem exs_aux (l : List S) : exs C l = S.rec_1 (motive_1 := fun _ => Env → O) (motive_2 := fun _ => Env → O)
  (fun i _ a => xAsg i (ev C a)) xMv (fun _ e => .nx e) (fun is a => xAsgT is (ev C a)) (fun is _ es => xPar is (evs C es))
  (fun i ix v => xSub1 i (ev C ix) (ev C v)) (fun i ix iy v => xSub2 i (ev C ix) (ev C iy) (ev C v)) (fun i v => xApp i (ev C v))
  (fun i ix v => xApp1 i (ev C ix) (ev C v)) (fun a => xEx (ev C a)) (fun c _ _ a b => xIte (ev C c) a b)
  (fun n c _ b => whlN (ev C c) b n) (fun t k srcs _ b => xLoop t k (evs C srcs) b) (fun a => xRet (ev C a)) (fun e => .ret .non e)
  (fun e => .brk e) (fun e => .nx e) (fun _ _ _ => .bad) (fun is e => .nx (kills is e))
  (fun e => .nx e) (fun _ _ a r e => seqO (a e) r) l := by
  induction l with
  | nil => rfl
  | cons a r ih =>
    show (fun e => seqO (ex C a e) (exs C r)) = fun e => seqO _ _
    rw [ih]
    rfl
@[simp] theorem exs_nil (e : Env) : exs C [] e = .nx e := rfl
@[simp] theorem exs_cons (a : S) (r : List S) (e : Env) : exs C (a :: r) e = seqO (ex C a e) (exs C r) := rfl
@[simp] theorem ex_asg (i d : Nat) (a : E) (e : Env) : ex C (.asg i d a) e = xAsg i (ev C a) e := rfl
@[simp] theorem ex_mv (i j : Nat) (e : Env) : ex C (.mv i j) e = xMv i j e := rfl
@[simp] theorem ex_fz (i : Nat) (e : Env) : ex C (.fz i) e = .nx e := rfl
@[simp] theorem ex_asgT (is : List Nat) (a : E) (e : Env) : ex C (.asgT is a) e = xAsgT is (ev C a) e := rfl
@[simp] theorem ex_par (is ds : List Nat) (es : List E) (e : Env) : ex C (.par is ds es) e = xPar is (evs C es) e := rfl
@[simp] theorem ex_sub1 (i : Nat) (ix v : E) (e : Env) : ex C (.sub1 i ix v) e = xSub1 i (ev C ix) (ev C v) e := rfl
@[simp] theorem ex_sub2 (i : Nat) (ix iy v : E) (e : Env) : ex C (.sub2 i ix iy v) e = xSub2 i (ev C ix) (ev C iy) (ev C v) e := rfl
@[simp] theorem ex_app (i : Nat) (v : E) (e : Env) : ex C (.app i v) e = xApp i (ev C v) e := rfl
@[simp] theorem ex_app1 (i : Nat) (ix v : E) (e : Env) : ex C (.app1 i ix v) e = xApp1 i (ev C ix) (ev C v) e := rfl
@[simp] theorem ex_ex (a : E) (e : Env) : ex C (.ex a) e = xEx (ev C a) e := rfl
@[simp] theorem ex_ite (c : E) (a b : List S) (e : Env) : ex C (.ite c a b) e = xIte (ev C c) (exs C a) (exs C b) e := by simp only [exs_aux]; rfl
@[simp] theorem ex_whl (n : Nat) (c : E) (b : List S) (e : Env) : ex C (.whl n c b) e = whlN (ev C c) (exs C b) n e := by simp only [exs_aux]; rfl
@[simp] theorem ex_loop (t : Tgt) (k : Src) (srcs : List E) (b : List S) (e : Env) : ex C (.loop t k srcs b) e = xLoop t k (evs C srcs) (exs C b) e := by simp only [exs_aux]; rfl
@[simp] theorem ex_ret (a : E) (e : Env) : ex C (.ret a) e = xRet (ev C a) e := rfl
@[simp] theorem ex_retN  (e : Env) : ex C (.retN) e = .ret .non e := rfl
@[simp] theorem ex_brk  (e : Env) : ex C (.brk) e = .brk e := rfl
@[simp] theorem ex_pass  (e : Env) : ex C (.pass) e = .nx e := rfl
@[simp] theorem ex_raise (c : Nat) (args : List E) (e : Env) : ex C (.raise c args) e = .bad := rfl
@[simp] theorem ex_kill (is : List Nat) (e : Env) : ex C (.kill is) e = .nx (kills is e) := rfl
end

/-! ### programs -/
structure Fn where
  name : Str
  /-- names of the slots, parameters first -/
  names : List Str
  np : Nat
  /-- the other slots -/
  nl : Nat
  /-- ownership of the parameters: 0 read only, 1 a list that is changed, 2 a list of lists -/
  kd : List Nat
  /-- how deep the list handed back is new -/
  fr : Nat
  body : List S
def undefs : Nat → List Val
  | 0 => []
  | n + 1 => .undef :: undefs n
/-- the first slots -/
def env0 (n : Nat) (args : List Val) : Env := List.rec (motive := fun _ => Env) (undefs n) (fun v _ r => v :: r) args
@[simp] theorem env0_nil (n : Nat) : env0 n [] = undefs n := rfl
@[simp] theorem env0_cons (n : Nat) (v : Val) (r : List Val) : env0 n (v :: r) = v :: env0 n r := rfl
/-- the parameters that are handed back -/
def outsOf (ks : List Nat) : Env → List Val := List.rec (motive := fun _ => Env → List Val) (fun _ => [])
  (fun k _ ih e => List.rec (motive := fun _ => List Val) [] (fun v r _ => Nat.rec (motive := fun _ => List Val) (ih r) (fun _ _ => v :: ih r) k) e) ks
@[simp] theorem outsOf_nil (e : Env) : outsOf [] e = [] := rfl
@[simp] theorem outsOf_zero (ks : List Nat) (v : Val) (r : Env) : outsOf (0 :: ks) (v :: r) = outsOf ks r := rfl
@[simp] theorem outsOf_succ (k : Nat) (ks : List Nat) (v : Val) (r : Env) : outsOf ((k + 1) :: ks) (v :: r) = v :: outsOf ks r := rfl
/-- a call's end -/
def endO (kd : List Nat) (o : O) : RC := O.rec (motive := fun _ => RC) (fun e => .ok .non (outsOf kd e)) (fun v e => .ok v (outsOf kd e)) (fun _ => .bad) (fun _ _ => .bad) .bad o
@[simp] theorem endO_nx (kd : List Nat) (e : Env) : endO kd (.nx e) = .ok .non (outsOf kd e) := rfl
@[simp] theorem endO_ret (kd : List Nat) (v : Val) (e : Env) : endO kd (.ret v e) = .ok v (outsOf kd e) := rfl
@[simp] theorem endO_exc (kd : List Nat) (x : Ex) (e : Env) : endO kd (.exc x e) = .bad := rfl
def runFn (C : Nat → List Val → RC) (f : Fn) (args : List Val) : RC := endO f.kd (exs C f.body (env0 f.nl args))
def fnAt (P : List Fn) : Nat → Option Fn := List.rec (motive := fun _ => Nat → Option Fn) (fun _ => none) (fun a _ ih n => Nat.rec (motive := fun _ => Option Fn) (some a) (fun m _ => ih m) n) P
@[simp] theorem fnAt_nil (n : Nat) : fnAt [] n = none := rfl
@[simp] theorem fnAt_zero (a : Fn) (r : List Fn) : fnAt (a :: r) 0 = some a := rfl
@[simp] theorem fnAt_succ (a : Fn) (r : List Fn) (n : Nat) : fnAt (a :: r) (n + 1) = fnAt r n := rfl
def runO (C : Nat → List Val → RC) (o : Option Fn) (args : List Val) : RC := Option.rec (motive := fun _ => RC) .bad (fun fn => runFn C fn args) o
@[simp] theorem runO_some (C : Nat → List Val → RC) (f : Fn) (args : List Val) : runO C (some f) args = runFn C f args := rfl
def callF (P : List Fn) (n : Nat) : Nat → List Val → RC := Nat.rec (motive := fun _ => Nat → List Val → RC) (fun _ _ => .bad) (fun _ C f args => runO C (fnAt P f) args) n
theorem callF_succ (P : List Fn) (n f : Nat) (args : List Val) : callF P (n + 1) f args = runO (callF P n) (fnAt P f) args := rfl
end Mp
end
set_option Elab.async false
set_option linter.all false
set_option maxRecDepth 10000
/-! # Mp: tuples whose object is known (so that their methods may be called): the rules that make them, as HandS has them for tracked ones. -/
namespace Mp
open PySem PySem.Spec PyProof.Rows L2

/-- a tuple of vs at a, an object without a dict -/
def TupK (K : PySem.W.Frag) (H : Hp) (a : Addr) (vs : List V) : Prop :=
  (∃ o, H a = some (.frz o (.tup vs)) ∧ o.dict = none) ∨
    ∃ (o : Obj) (its : Array Value) (n : Nat), K.lookup a = some o ∧ o.cls = .type "tuple" ∧ o.dict = none ∧ o.data = .seq its n ∧ its.size ≤ sizeLine ∧ Vals vs its.toList
theorem TupK.sqt {K : PySem.W.Frag} {H : Hp} {a : Addr} {vs : List V} (h : TupK K H a vs) : SqT K H a vs := by
  rcases h with ⟨o, h, _⟩ | ⟨o, its, n, h1, h2, h3, h4, h5, h6⟩
  · exact .inl (.inr ⟨o, h⟩)
  · exact .inr ⟨o, its, n, h1, h2, h4, h5, h6⟩
theorem TupK.new {K : PySem.W.Frag} {H : Hp} {a : Addr} {vs : List V} {o : Obj} (h : H a = some (.frz o (.tup vs))) (d : o.dict = none) : TupK K H a vs := .inl ⟨o, h, d⟩
/-- a new tuple -/
def Nt (H : Hp) (vs : List V) (Q : VK) : Prop := ∀ p o, H p = none → o.dict = none → Q (.ref p) (upd H p (.frz o (.tup vs)))
section
variable {X : Cx} {pins : List (Addr × Obj)} {σ : L2.St} {H : Hp} {s : Shared} {Q : VK} {vs : List V} {us : List Value}
theorem nt_push (I : Inv X pins σ H s) (r : Vals vs us) (z : vs.length ≤ sizeLine) (q : Nt H vs Q) (t' : Nat) :
    EP X pins σ Q (.ref s.heap.objs.size) { s with heap := s.heap.push { cls := .type "tuple", data := .seq us.toArray }, toks := t' } := by
  have hf : H s.heap.objs.size = none := I.hok.fresh (Nat.le_refl _)
  refine ⟨.ref s.heap.objs.size, upd H s.heap.objs.size (.frz { cls := .type "tuple", data := .seq us.toArray } (.tup vs)), I.laid (t' := t') (fun b u e => Heap.get?_push_of_some _ e) (Nat.le_refl _) ?_, rfl, q _ _ hf rfl⟩
  exact ⟨Heap.get?_push_size _ rfl, z, us, r, ⟨_, Heap.get?_push_size _ rfl, rfl, _, rfl⟩⟩
end
section
variable {X : Cx} {es : List Expr} {t : TA} {pos : Pos}
def tTupF (t : TA) : TE := fun σ H Q => t σ H fun xs H1 => xs.length ≤ sizeLine ∧ Nt H1 xs Q
theorem pe_tupF {x1} (h : PA X es t) : PE X (.Tuple es x1 pos) (tTupF t) := by
  refine ⟨fun pins s σ H Q I hq => ?_⟩
  exact wpAny_Tuple_spliced (thn (h.run pos pins s σ H _ I hq) fun us s1 ⟨xs, H1, I1, r, z, q⟩ => ⟨by rw [← r.length]; exact z, nt_push I1 r z q s1.toks⟩)
def rTupF (K : PySem.W.Frag) : List V → Hp → VK → Prop := fun xs H Q => ∃ p ys, xs = [.ref p] ∧ ((SqL K H p ys ∧ Nt H ys Q) ∨ (SqT K H p ys ∧ Q (.ref p) H))
theorem call_tupleF : CallR X (.type "tuple") (rTupF X.K) := by
  intro pins s σ H xs us Q I r h
  obtain ⟨p, ys, rfl, h⟩ := h
  obtain ⟨u, rfl, rx⟩ := vals1 r
  cases rx
  rcases h with ⟨hq, q⟩ | ⟨hq, q⟩
  · obtain ⟨its, r', pl, hz⟩ := I.list hq
    have hlen := r'.length
    refine call_tuple_list pl.isList (fun h' kp => ?_) (by simp only [List.size_toArray] <;> omega)
    have I1 : Inv X pins σ H { s with heap := h' } := I.kept (t' := s.toks) kp
    exact nt_push I1 r' hz q s.toks
  · obtain ⟨its, r', pl, hz⟩ := I.tuple hq
    exact call_tuple_same pl ⟨.ref p, H, I, rfl, q⟩
def rCatF (K : PySem.W.Frag) : R2 := fun x y H Q => ∃ a b xs ys, x = .ref a ∧ y = .ref b ∧ SqT K H a xs ∧ SqT K H b ys ∧ xs.length + ys.length ≤ sizeLine ∧
  (xs = [] → Q (.ref b) H) ∧ (xs ≠ [] → ys = [] → Q (.ref a) H) ∧ (xs ≠ [] → ys ≠ [] → Nt H (xs ++ ys) Q)
theorem op_catF : OpR X (binaryOp .Add) (rCatF X.K) := by
  intro pins s σ H x y v u Q I rx ry h
  obtain ⟨a, b, xs, ys, rfl, rfl, ha, hb, hz, q0, q1, q2⟩ := h
  cases rx
  cases ry
  obtain ⟨its, r1, p1, _⟩ := I.tuple ha
  obtain ⟨its2, r2, p2, _⟩ := I.tuple hb
  by_cases hx : xs = []
  · subst hx
    cases r1
    exact cat_tup0 p1 p2 ⟨.ref b, H, I, rfl, q0 rfl⟩
  · exact HT.cat_tup p1 p2 (fun z => hx (r1.nil_iff.mp z)) (fun z => ⟨.ref a, H, I, rfl, q1 hx (r2.nil_iff.mp z)⟩) (fun z => nt_push I (r1.append r2) (by rw [List.length_append]; exact hz) (q2 hx fun w => z (r2.nil_iff.mpr w)) s.toks) (by rw [← r1.length, ← r2.length]; exact hz)
def rSlF (K : PySem.W.Frag) : V → Option Int → Option Int → Hp → VK → Prop := fun x lo hi H Q => ∃ a xs, x = .ref a ∧ SqT K H a xs ∧
  (HT.sIx xs.length 0 lo = 0 ∧ HT.sIx xs.length xs.length hi = xs.length → Q (.ref a) H) ∧ (¬ (HT.sIx xs.length 0 lo = 0 ∧ HT.sIx xs.length xs.length hi = xs.length) → Nt H (cutV xs lo hi) Q)
theorem sl_tupF : SlR X (rSlF X.K) := by
  intro pins s σ H x v vl vu lo hi sl Q I rx hs pl pu h
  obtain ⟨a, xs, rfl, hx, q1, q2⟩ := h
  cases rx
  obtain ⟨its, r, ht, hz⟩ := I.tuple hx
  have hlen : its.toArray.size = xs.length := by rw [List.size_toArray]; exact r.length.symm
  refine ⟨"tuple", _, PyProof.Rows.slot_tuple_getitem.lookup, ht.typeIs, ?_⟩
  by_cases hw : HT.sIx xs.length 0 lo = 0 ∧ HT.sIx xs.length xs.length hi = xs.length
  · exact getItem_tuple_whole ht hs pl pu (by rw [hlen]; exact hw) ⟨.ref a, H, I, rfl, q1 hw⟩
  · refine HT.getItem_tuple_cut ht hs pl pu (by rw [hlen]; exact hw) ?_ (by rw [hlen]; exact hz)
    rw [hlen]
    exact nt_push I ((r.drop (HT.sIx xs.length 0 lo)).take (HT.sIx xs.length xs.length hi - HT.sIx xs.length 0 lo)) (Nat.le_trans (cutV_length xs lo hi) hz) (q2 hw) s.toks
theorem asIndex_int (i : Int) (u : Tok) : asIndex (Value.int i u) = pure i := rfl
theorem mul1 (l : Addr) (items : Array Value) (n : Nat) (dd : Option Addr) (sl : Array (Option Value)) (u : Tok) : Meets (Builtin.«tuple.__mul__» { pos := [Value.ref l, Value.int 1 u] }) fun x R s => s.heap.get? l = some { cls := Value.type "tuple", dict := dd, data := Data.seq items n, slots := sl } ∧ R (Except.ok (Flow.ret (Value.ref l))) s := by
  intro prog w A R s ⟨ho, q⟩
  refine wpAny_bind (m := asIndex (Value.int 1 u)) ?_
  rw [asIndex_int]
  refine wpAny_pure ?_
  have h1 : (decide ((1 : Int) < -2 ^ 63) || decide ((1 : Int) ≥ 2 ^ 63)) = false := by decide
  rw [if_neg (by rw [h1]; decide)]
  refine wpAny_bind (m := Builtin.Tuple.tupleItemsOf (Value.ref l)) (wpAny_tupleItemsOf ho rfl ?_)
  have h2 : (items.isEmpty || (1 : Int) == 1) = true := by simp
  rw [if_pos h2]
  refine wpAny_bind (m := Builtin.Tuple.tupleIsExact (Value.ref l)) ?_
  unfold Builtin.Tuple.tupleIsExact
  refine wpAny_bind (wpAny_typeOf (T := "tuple") ⟨_, ho, rfl⟩ (wpAny_pure ?_))
  rw [if_pos (by decide)]
  refine wpAny_bind (wpAny_rule ?_)
  exact wpAny_pure q
def rRep1 (K : PySem.W.Frag) : R2 := fun x y H Q => ∃ l xs, x = V.ref l ∧ y = V.int 1 ∧ SqT K H l xs ∧ Q (.ref l) H
theorem op_rep1 {X : Cx} : OpR X (binaryOp .Mult) (rRep1 X.K) := by
  intro pins s σ H x y v u Q I rx ry h
  obtain ⟨l, xs, rfl, rfl, hT, q⟩ := h
  cases rx
  obtain ⟨t, rfl⟩ := ry
  obtain ⟨its, r, ⟨o, ho, hc, n, hd⟩, hs⟩ := I.tuple hT
  obtain ⟨cls, dd, data, sl⟩ := o
  cases hc
  cases hd
  refine wpAny_binaryOp_repeat_ref (T := "tuple") (U := "int") (by decide) ⟨_, ho, rfl⟩ (fun s' => typeIs_int _ _ _) L2.noFill_tuple_mul PySem.F.fills_int_mul PySem.F.slot_int_rmul L2.repeat_tuple PySem.F.slot_int_index.lookup ?_
  refine call_meets PySem.F.slot_int_rmul (typeIs_int _ _ _) PySem.F.entry_int_rmul (PySem.F.args_int_rmul_2 _ _) (L2.int_rmul_tuple 1 t l its.toArray n dd sl) ⟨ho, rfl, ⟨_, ho, rfl⟩, ?_⟩
  exact call_meets PySem.F.slot_tuple_mul ⟨_, ho, rfl⟩ PySem.F.entry_tuple_mul (PySem.F.args_tuple_mul_2 _ _) (mul1 l its.toArray n dd sl t) ⟨ho, ⟨.ref l, H, I, rfl, q⟩⟩
def rRepF (K : PySem.W.Frag) : R2 := fun x y H Q => ∃ l k xs, x = .ref l ∧ y = .int k ∧ SqT K H l xs ∧ xs ≠ [] ∧ 2 ≤ k ∧ k ≤ 1000 ∧ xs.length ≤ 1000 ∧ Nt H (List.replicate k.toNat xs).flatten Q
theorem op_repF : OpR X (binaryOp .Mult) (rRepF X.K) := by
  intro pins s σ H x y v u Q I rx ry h
  obtain ⟨l, k, xs, rfl, rfl, hT, hne, h1, h2, hz, q⟩ := h
  cases rx
  obtain ⟨t, rfl⟩ := ry
  obtain ⟨its, r, ⟨⟨cls, dd, data, sl⟩, ho, hc, n, hd⟩, hs⟩ := I.tuple hT
  simp only at hc hd
  subst hc hd
  have hle : its.length = xs.length := r.length.symm
  have hn : its ≠ [] := fun e => hne (by
    rw [e] at hle
    exact List.eq_nil_of_length_eq_zero hle.symm)
  have hi : its.toArray.isEmpty = false := by
    cases its with
    | nil => exact absurd rfl hn
    | cons a b => rfl
  have hsz0 : its.toArray.size = xs.length := by rw [List.size_toArray, hle]
  have hm : ((its.toArray.size : Nat) : Int) * k ≤ 1000000 := by
    rw [hsz0]
    have a1 : ((xs.length : Nat) : Int) * k ≤ 1000 * k := Int.mul_le_mul_of_nonneg_right (by omega) (by omega)
    omega
  have flen : (List.replicate k.toNat its).flatten.length ≤ sizeLine := by
    rw [PyProof.Rows.lm_len_rep_flat, hle, sizeLine_eq]
    have a1 : k.toNat * xs.length ≤ 1000 * 1000 := Nat.mul_le_mul (by omega) hz
    omega
  have c0 : (decide (k < -(2 ^ 63)) || decide (k ≥ 2 ^ 63)) = false := by
    rw [decide_eq_false (by omega), decide_eq_false (by omega)] <;> rfl
  have c1 : (its.toArray.isEmpty || k == 1) = false := by
    rw [hi, Bool.false_or]
    exact beq_eq_false_iff_ne.mpr (by omega)
  have c2 : (decide (k ≤ 0) || its.toArray.isEmpty) = false := by
    rw [hi, Bool.or_false]
    exact decide_eq_false (by omega)
  have c4 : Builtin.Tuple.tupleTooMany (((its.toArray.size : Nat) : Int) * k) = false := by
    unfold Builtin.Tuple.tupleTooMany
    rw [sizeLine_eq]
    exact decide_eq_false (by omega)
  refine wpAny_binaryOp_repeat_ref (T := "tuple") (U := "int") (by decide) ⟨_, ho, rfl⟩ (fun s' => typeIs_int s' k t) noFill_tuple_mul F.fills_int_mul F.slot_int_rmul repeat_tuple F.slot_int_index.lookup
    (call_meets F.slot_int_rmul (typeIs_int s k t) F.entry_int_rmul (F.args_int_rmul_2 _ _) (int_rmul_tuple k t l its.toArray n dd sl)
      ⟨ho, rfl, ⟨_, ho, rfl⟩, call_meets F.slot_tuple_mul ⟨_, ho, rfl⟩ F.entry_tuple_mul (F.args_tuple_mul_2 _ _) (tuple_mulW l its.toArray n dd sl k t c0 c1 c2 (by omega) c4 (by rw [size_rep, List.size_toArray]; exact flen)) ⟨ho, ?_⟩⟩)
  rw [size_rep]
  exact nt_push I (r.rep k.toNat) (by rw [PyProof.Rows.lm_len_rep_flat, sizeLine_eq]; have a1 : k.toNat * xs.length ≤ 1000 * 1000 := Nat.mul_le_mul (by omega) hz; omega) q s.toks
/-- a method of a built-in type, the receiver's type as one likes -/
theorem pe_bmG {o e : Expr} {es : List Expr} {to : TE} {t : TA} {name : Str} {apos cpos : Pos} {T id : String} {r : V → List V → Hp → VK → Prop} {ty : V → Hp → Prop} (pa : PlainAttrs T) (slot : Slot T name id)
    (hty : typeOf (.builtin id) = pure (.type "method_descriptor")) (hm : MtR X id r)
    (his : ∀ (pins : List (Addr × Obj)) (σ : L2.St) (H : Hp) (s : Shared) (x : V) (v : Value), Inv X pins σ H s → RelV x v → ty x H → s.TypeIs v T ∧ ∀ a, v = .ref a → ∃ ob, s.heap.get? a = some ob ∧ ob.dict = none)
    (ho : PE X o to) (ha : PA X (e :: es) t) (hbase : attributeBase o name X.env (eval o X.env) = eval o X.env)
    (hfew : ((backTo cpos (starEach (e :: es) X.env)).all (fun x => !x.1) && (backToKw cpos (keywordEach [] X.env)).all (fun x => x.1.isSome)
      && decide ((e :: es).length + ([] : List Keyword).length + (if ([] : List Keyword).isEmpty then 0 else 1) < 30)) = true)
    (hline : (apos.endLine == cpos.line) = true) (hs : starEach (e :: es) X.env = (false, eval e X.env) :: starEach es X.env) (hplain : (backTo cpos (starEach es X.env)).any (·.1) = false) :
    PE X (.Call (.Attribute o name apos) (e :: es) [] cpos) (fun σ H Q => to σ H fun x H1 => ty x H1 ∧ t σ H1 fun xs H2 => r x xs H2 Q) := by
  refine ⟨fun pins s σ H Q I h => ?_⟩
  refine wpAny_Call_method_late hbase hfew hline rfl (thn (ho.run pins s σ H _ I h) fun v s1 ⟨x, H1, I1, r1, ty, q1⟩ => ?_)
  obtain ⟨h1, h2⟩ := his _ _ _ _ _ _ I1 r1 ty
  refine ⟨T, id, pa, slot, hty, h1, h2, ?_⟩
  have hA := ha.run cpos pins s1 σ H1 _ I1 q1
  rw [hs] at hA ⊢
  refine Calls.callWith_builtin (by show (false || (backTo cpos (starEach es X.env)).any (·.1)) = false; rw [hplain] <;> rfl) (Calls.evalArgs_plain ?_)
  exact thn hA fun us s2 ⟨vs, H2, I2, r2, q2⟩ => hm pins s2 σ H2 x vs v us Q I2 r1 r2 q2
theorem tupK_is {pins : List (Addr × Obj)} {σ : L2.St} {H : Hp} {s : Shared} {x : V} {v : Value} (I : Inv X pins σ H s) (r : RelV x v) (h : ∃ a vs, x = .ref a ∧ TupK X.K H a vs) : s.TypeIs v "tuple" ∧ ∀ a, v = .ref a → ∃ ob, s.heap.get? a = some ob ∧ ob.dict = none := by
  obtain ⟨a, vs, rfl, h⟩ := h
  cases r
  rcases h with ⟨o, h, d⟩ | ⟨o, its, n, h1, h2, h3, h4, h5, h6⟩
  · obtain ⟨e, _, its, _, ot, e2, c, _⟩ := I.hok a _ h
    rw [e] at e2
    cases e2
    refine ⟨⟨o, e, c⟩, fun b z => ?_⟩
    cases z
    exact ⟨o, e, d⟩
  · have e := I.kIn a o h1
    refine ⟨⟨o, e, h2⟩, fun b z => ?_⟩
    cases z
    exact ⟨o, e, h3⟩
/-- t.index(y), flat items -/
def rIndexT (K : PySem.W.Frag) : V → List V → Hp → VK → Prop := fun x xs H Q => ∃ (a : Addr) (ys : List V) (y : V) (j : Nat) (z : V), x = V.ref a ∧ xs = [y] ∧ SqT K H a ys ∧ flatV y = true ∧ ys.all flatV = true ∧ ys[j]? = some z ∧ eqV z y = true ∧
  (∀ (m : Nat) (z' : V), m < j → ys[m]? = some z' → eqV z' y = false) ∧ Q (.int (j : Nat)) H
theorem mt_indexT : MtR X "tuple.index" (rIndexT X.K) := by
  intro pins s σ H x xs v us Q I rx rxs h
  obtain ⟨a, ys, y, j, z, rfl, rfl, hs, fy, fys, hz, hzj, hno, q⟩ := h
  cases rx
  obtain ⟨uy, rfl, ry⟩ := vals1 rxs
  obtain ⟨its, rv, ⟨⟨cls, dd, data, sl⟩, ho, hc, n, hd⟩, hlen⟩ := I.tuple hs
  simp only at hc hd
  subst hc hd
  obtain ⟨u, hu, ru⟩ := rv.get hz
  obtain ⟨hjl, hje⟩ := List.getElem?_eq_some_iff.mp hu
  have hvl := rv.length
  have hj : j < its.toArray.size := by simpa using hjl
  refine call_meets PySem.F.slot_tuple_index ⟨_, ho, rfl⟩ PySem.F.entry_tuple_index (PySem.F.args_tuple_index_2 _ _)
    (TI.tuple_indexAt a its.toArray n dd sl uy (eqU y) j hj ?_ ?_) ⟨ho, fun u' hu' => mem_eqAt ry fy rv fys u' (by simpa using hu'), ?_⟩
  · have e1 : its.toArray[j] = u := by simpa using hje
    rw [e1, eqU_of ru (flat_at fys hz)]
    exact hzj
  · intro m hm hmj
    have hml : m < its.length := by simpa using hm
    have hmy : m < ys.length := by omega
    have hy' : ys[m]? = some ys[m] := List.getElem?_eq_getElem hmy
    obtain ⟨u2, hu2, ru2⟩ := rv.get hy'
    obtain ⟨_, hme⟩ := List.getElem?_eq_some_iff.mp hu2
    have e1 : its.toArray[m] = u2 := by simpa using hme
    rw [e1, eqU_of ru2 (flat_at fys hy')]
    exact hno m _ hmj hy'
  · exact ⟨.int (j : Nat), H, I.tok _, ⟨_, rfl⟩, q⟩
end
end Mp
set_option Elab.async false
set_option linter.all false
set_option maxRecDepth 100000
/-! # Mp: sorted(t) of a tuple of ints, tuple(range(..)) with its object known. -/
namespace PyProof.Rows
open PySem PySem.Spec
section
variable {prog : Program} {w : World} {A : Around} {E : Value → Shared → Prop} {s : Shared}
theorem mq_collect {l : Addr} {vs : List Value} {Q : List Value → Shared → Prop} (hl : IsTup s.heap l vs.toArray)
    (h : Q vs { s with heap := (s.heap.push (seqObj "list" #[] 0)).update s.heap.objs.size (Obj.mapSeq (· ++ vs.toArray)) }) (hsz : vs.length ≤ sizeLine) :
    wpAny (model prog w) A (collect (.ref l)) Q E s := by
  obtain ⟨o, ho, hc, n, hd⟩ := id hl
  unfold collect
  refine wpAny_bind (wpAny_runValue (codeAny_builtin entry_proto_collect' ?_))
  show wpAny _ _ (do again (.builtin "list.__iadd__" ⟨[← newList [], .ref l], []⟩)) _ _ s
  refine wpAny_bind (wpAny_newList (wpAny_pure ⟨Code.quiet_builtin _ (by decide +kernel), codeAny_builtin entry_list_iadd' ?_⟩))
  show wpAny _ _ (Builtin.List.listExtendWith (.ref s.heap.objs.size) (.ref l) (.ref s.heap.objs.size)) _ _ { s with heap := s.heap.push (seqObj "list" #[] 0) }
  unfold Builtin.List.listExtendWith
  have ho' : (s.heap.push (seqObj "list" #[] 0)).get? l = some o := Heap.get?_push_of_some _ ho
  refine wpAny_bind (wpAny_typeOf (T := "tuple") ⟨o, ho', hc⟩ ?_)
  have ht : (Value.type "tuple" == Value.type "tuple") = true := by rfl
  rw [if_pos (by rw [ht]; simp)]
  refine wpAny_bind (listItems_at ho' hd ?_)
  refine wpAny_bind (listItems_at (xs := #[]) (n := 0) (Heap.get?_push_size _ rfl) rfl ?_)
  rw [if_neg (by simp)]
  refine wpAny_bind (listUpdate_at (xs := #[]) (n := 0) (Heap.get?_push_size _ rfl) rfl ?_ (Nat.zero_le _) (by show (#[] ++ vs.toArray).size ≤ sizeLine + 1; simp only [Array.size_append, List.size_toArray, List.length_nil]; omega))
  refine wpAny_pure ?_
  show wpAny (model prog w) A (do
      let o ← load s.heap.objs.size
      match o.data with
      | .seq xs _ => pure xs.toList
      | _ => unsupported "internal:collect") Q E { s with heap := (s.heap.push (seqObj "list" #[] 0)).update s.heap.objs.size (Obj.mapSeq (· ++ vs.toArray)) }
  refine wpAny_bind (wpAny_load (get?_update_seq (Heap.get?_push_size _ rfl) _) ?_)
  show wpAny _ _ (pure ((#[] : Array Value) ++ vs.toArray).toList) Q E _
  rw [show ((#[] : Array Value) ++ vs.toArray).toList = vs by simp]
  exact wpAny_pure h
end
end PyProof.Rows
namespace SrtO
open PySem PyProof.Rows Srt
section
variable {prog : Program} {w : World} {A : Around} {E : Value → Shared → Prop} {s : Shared}
theorem mq_sorted {l : Addr} {vs : List Value} {ltv : Value → Value → Bool} {Q : Value → Shared → Prop} (O : Swo ltv) (hl : IsTup s.heap l vs.toArray) (hz : vs.length ≤ sizeLine)
    (hS : 2 ≤ vs.length → ∀ (h₁ : Heap) (a : Addr), h₁.get? a = some (seqObj "list" vs.toArray 0) → (∀ b o, s.heap.get? b = some o → b ≠ a ∧ h₁.get? b = some o) → SortableO prog w A.in1.in1 { s with heap := h₁ } a vs ltv)
    (h : ∀ out : List Value, Srtd ltv out → Stb ltv out vs → Q (.ref (s.heap.objs.size + 1)) { s with heap := sortedAll s.heap vs out.toArray }) :
    wpAny (model prog w) A (call (.builtin "sorted") [.ref l]) Q E s := by
  refine Calls.call_function_entry kind_sorted plain_sorted entry_sorted (args_sorted1 _) ?_
  unfold Builtin.«sorted»
  refine wpAny_bind (m := checkCount "sorted" 1 1 _) (wpAny_pure ?_)
  refine wpAny_bind (mq_collect hl ?_ hz)
  refine wpAny_bind (wpAny_newList ?_ hz)
  have hsz : ((s.heap.push (seqObj "list" #[] 0)).update s.heap.objs.size (Obj.mapSeq (· ++ vs.toArray))).objs.size = s.heap.objs.size + 1 := by
    rw [Heap.size_update, size_push']
  have hoL : (((s.heap.push (seqObj "list" #[] 0)).update s.heap.objs.size (Obj.mapSeq (· ++ vs.toArray))).push (seqObj "list" vs.toArray 0)).get? (s.heap.objs.size + 1) = some (seqObj "list" vs.toArray 0) := by
    rw [← hsz]; exact Heap.get?_push_size _ rfl
  have keep : ∀ b o, s.heap.get? b = some o → b ≠ s.heap.objs.size + 1 ∧ (((s.heap.push (seqObj "list" #[] 0)).update s.heap.objs.size (Obj.mapSeq (· ++ vs.toArray))).push (seqObj "list" vs.toArray 0)).get? b = some o := fun b o q => by
    have hlt : b < s.heap.objs.size := Heap.lt_size q
    refine ⟨Nat.ne_of_lt (Nat.lt_succ_of_lt hlt), Heap.get?_push_of_some _ ?_⟩
    rw [Heap.get?_update_ne _ _ _ _ (Nat.ne_of_lt hlt)]
    exact Heap.get?_push_of_some _ q
  show wpAny _ _ _ _ _ { s with heap := ((s.heap.push (seqObj "list" #[] 0)).update s.heap.objs.size (Obj.mapSeq (· ++ vs.toArray))).push (seqObj "list" vs.toArray 0) }
  rw [hsz]
  refine wpAny_bind (wpAny_holding (wpAny_call_entry slot_list_sort ⟨_, hoL, rfl⟩ entry_list_sort (list_sort_ord O hoL hz (fun h2 => hS h2 _ _ hoL keep) fun out hs hb => ⟨_, rfl, ?_⟩) (args_list_sort _)))
  exact wpAny_pure ⟨_, rfl, h out hs hb⟩
end
end SrtO
namespace Mp
open PySem PySem.Spec PyProof.Rows L2
/-- sorted(xs) of a list or a tuple of ints -/
def rSortedU (K : PySem.W.Frag) : List V → Hp → VK → Prop := fun vs H Q => ∃ (a : Addr) (ns : List Int), vs = [V.ref a] ∧ (SqL K H a (ns.map V.int) ∨ SqT K H a (ns.map V.int)) ∧
  ∀ (ns' : List Int) (p : Addr), ns'.Perm ns → ns'.Pairwise (· ≤ ·) → H p = none → Q (.ref p) (upd H p (.lst (ns'.map V.int)))
theorem cr_sortedU {X : Cx} : CallR X (.builtin "sorted") (rSortedU X.K) := by
  intro pins s σ H vs us Q I r h
  obtain ⟨a, ns, rfl, hs, q⟩ := h
  rcases hs with hs | hs
  · exact cr_sortedI pins s σ H _ us Q I r ⟨a, ns, rfl, hs, q⟩
  · obtain ⟨its, rv, hl, hz⟩ := I.tuple hs
    rw [Vals.ref1 r]
    have hi := rv.ints
    refine SrtO.mq_sorted SrtO.swo_int hl (by rw [← rv.length]; exact hz) (fun h2 h₁ a' _ _ => SrtO.ints_sortable hi h2) fun out h1 h2 => ?_
    obtain ⟨k1, k2, k3⟩ := SrtO.ints_out hi h1 h2
    obtain ⟨ep, he'⟩ := PyProof.Rows.sortedAll_at s.heap its out.toArray
    have hlen : ((out.map SrtO.iv).map V.int).length ≤ sizeLine := by
      rw [List.length_map, k2.length_eq]
      rw [List.length_map] at hz
      exact hz
    exact ⟨.ref _, upd H (s.heap.objs.size + 1) (.lst ((out.map SrtO.iv).map V.int)), I.laid (t' := s.toks) (fun _ _ => PyProof.Rows.sortedAll_old) (Nat.le_succ _) ⟨hlen, out, ep, vals_of_ints k1, he'⟩, rfl, q _ _ k2 k3 (I.hok.fresh (Nat.le_succ _))⟩
section
variable {X : Cx} {e : Expr} {te : L2.St → Hp → (Int → Int → Hp → Prop) → Prop}
/-- a range made a list (false) or a tuple (true) -/
def tRgF (t : Bool) (te : L2.St → Hp → (Int → Int → Hp → Prop) → Prop) : TE := fun σ H Q => te σ H fun a b H1 => RgOk a b ∧ ((t = false ∧ ∀ q, H1 q = none → Q (.ref q) (upd H1 q (.lst (rgV a b)))) ∨ (t = true ∧ Nt H1 (rgV a b) Q))
theorem pe_rgF {p pos : Pos} {t : Bool} (hc : X.calm = true) (hg : Gl X (cond t "tuple" "list")) (hm : X.mg (cond t "tuple" "list") = none) (he : PRg X e te) (na : starEach [e] X.env = (false, eval e X.env) :: starEach [] X.env := by rfl) : PE X (.Call (.Name (cond t "tuple" "list") p) [e] [] pos) (tRgF t te) := by
  refine ⟨fun pins s σ H Q I h => ?_⟩
  cases t with
  | false =>
    refine Call_ (ld_blt I hg hm boot_list (PyProof.Rows.callWith_type1 (args_cons (thn (he pins s σ H _ I h) fun x s1 ⟨r, a, b, t, u, v, H1, ex, hr, I1, ok, q⟩ => args_nil ?_) na) na))
    subst ex
    obtain ⟨b1, b2, b3, b4, b5⟩ := ok
    refine call_list_range (n := (b - a).toNat) (I1.ok.hd hc) hr (small_one b1 b2 b3 b4) (rangeSize_nat a b) b5 fun h' tk acc c' hk e' hi => ?_
    have q := q.resolve_right fun z => Bool.noConfusion z.1
    refine ⟨.ref s1.heap.objs.size, upd H1 s1.heap.objs.size (.lst (rgV a b)), I1.laid hk (Nat.le_refl _) (show ObjOk X.prog X.w _ _ _ (.lst (rgV a b)) from ⟨?_, acc.toList, c', vals_rg hi, ?_⟩), rfl, q.2 _ (I1.hok.fresh (Nat.le_refl _))⟩
    · rw [rgV_length, sizeLine_eq]; omega
    · rw [Array.toArray_toList]; exact e'
  | true =>
    refine Call_ (ld_blt I hg hm boot_tuple (PyProof.Rows.callWith_type1 (args_cons (thn (he pins s σ H _ I h) fun x s1 ⟨r, a, b, t, u, v, H1, ex, hr, I1, ok, q⟩ => args_nil ?_) na) na))
    subst ex
    obtain ⟨b1, b2, b3, b4, b5⟩ := ok
    refine call_tuple_range (n := (b - a).toNat) (I1.ok.hd hc) hr (small_one b1 b2 b3 b4) (rangeSize_nat a b) b5 fun h' tk acc hk hi => ?_
    have q := q.resolve_left fun z => Bool.noConfusion z.1
    have I2 : Inv X pins σ H1 { s1 with heap := h', toks := tk } := I1.kept hk
    have z := nt_push I2 (vals_rg hi) (by rw [rgV_length, sizeLine_eq]; omega) q.2 tk
    rw [Array.toArray_toList] at z
    exact z
end
end Mp
set_option Elab.async false
set_option linter.all false
set_option maxRecDepth 100000
set_option maxHeartbeats 4000000
/-! # Mp: sorted(set(xs)), len(set(xs)) of a list or a tuple of ints. -/
namespace Mp
open PySem PySem.Spec PyProof.Rows L2
abbrev sFr (w : World) : Obj := { cls := .type "set", dict := none, data := .set #[] 0 (.fresh 0 0 (!w.params.followText "set-order")) }
section
variable {P : Program} {w : World} {A : Around} {E : Value → Shared → Prop} {s : Shared}
set_option maxRecDepth 100000 in
set_option maxHeartbeats 3200000 in
theorem mq_set_list {l : Addr} {items : Array Value} (ns : List Int) {Q : Value → Shared → Prop} (hh : A.handled = none) (hl : s.heap.IsList l items) (hit : IntsAre items.toList ns) (hb : ns.length + 1 < scanBound)
    (h : ∀ (h' : Heap) (tk c : Nat), SetR w h' s.heap.objs.size (fun j => decide (j ∈ ns)) c → c ≤ ns.length → (∀ b o, s.heap.get? b = some o → h'.get? b = some o) → Q (.ref s.heap.objs.size) { s with heap := h', toks := tk }) :
    wpAny (model P w) A (call (.type "set") [.ref l]) Q E s := by
  have hisz : items.size = ns.length := by
    have q := IntsAre.length hit
    rw [Array.length_toList] at q
    exact q
  obtain ⟨c, tl, hmro⟩ := F.called_set.mro
  have hmade := F.called_set.made
  have hsub := F.called_set.sub
  refine wpAny_call (codeAny_of_tree ?_)
  show wpAny _ _ (callAny (.type "set") _) _ _ _
  refine wpAny_pure ⟨Code.quiet_builtin _ (by decide +kernel), codeAny_builtin F.entry_type_call ?_⟩
  rw [Around.under_plain (weight_type_call_type "set" [.ref l] []) rfl]
  have h1 := F.called_set.notType
  have h2 := F.called_set.canCreate
  have hct := F.typeCall_set_1 (.ref l)
  repeat (any_goals (first | assumption | wp_step))

  refine codeAny_mono (code_set_led1 (.ref l) (E := E) (Q₁ := fun obj s₁ => obj = .ref s.heap.objs.size ∧ s₁ = { s with heap := s.heap.push (sFr w) }) ⟨rfl, rfl⟩) fun r s₁ hr => ?_
  cases r with
  | error e => exact hr
  | ok fl =>
    cases fl with
    | ret obj =>
      obtain ⟨rfl, rfl⟩ := hr
      have hS : (s.heap.push (sFr w)).get? s.heap.objs.size = some (sFr w) := Heap.get?_push_size _ rfl
      have hT : Shared.TypeIs { s with heap := s.heap.push (sFr w) } (.ref s.heap.objs.size) "set" := ⟨_, hS, rfl⟩
      have hli := F.called_set.init.lookup
      have hbi := F.called_set.init.bind (.ref s.heap.objs.size)
      repeat (any_goals (first | assumption | wp_step))

      refine codeAny_mono (codeAny_call_builtin (R := wants (fun r s₂ => r = .none ∧ ∃ h' tk c, s₂ = { s with heap := h', toks := tk } ∧ SetR w h' s.heap.objs.size (fun j => decide (j ∈ ns)) c ∧ c ≤ ns.length ∧
          (∀ b o, s.heap.get? b = some o → h'.get? b = some o)) E) F.called_set.init.plain F.entry_set_init (check_set_init_1 hT ?_)) fun r₂ s₂ hr₂ => ?_
      · obtain ⟨ol, hol, hcl, nl, hdl⟩ := hl
        obtain ⟨ocls, odict, odata, oslots⟩ := ol
        simp only at hcl hdl
        subst hcl; subst hdl
        have hol' : (s.heap.push (sFr w)).get? l = some { cls := .type "list", dict := odict, data := .seq items nl, slots := oslots } := Heap.get?_push_of_some _ hol
        have hsls := F.sub_list_set
        have hslf := F.sub_list_frozenset
        have hne : (Value.type "list" == Value.type "dict") = false := by decide
        have hl1 : (s.heap.push (sFr w)).IsList l items := ⟨_, hol', rfl, nl, rfl⟩
        unfold Builtin.«set.__init__» noKeywords Builtin.Frozenset.updateFrom
        generalize hPI : pyIter = PI
        wp_walk
        subst hPI

        refine wpAny_pyIter_list hl1 ?_
        refine wpAny_bind (wpAny_runValue ?_)
        have hlS : l < s.heap.objs.size := Heap.lt_size hol
        have hh3 : A.in1.in1.in1.handled = none := by simp [hh]
        have hz1 : (s.heap.push (sFr w)).objs.size = s.heap.objs.size + 1 := Heap.size_push ..
        have hneI : l ≠ (s.heap.push (sFr w)).objs.size := by
          rw [Heap.size_push]; exact Nat.ne_of_lt (Nat.lt_succ_of_lt hlS)
        have hSf : s.heap.objs.size ∉ [(s.heap.push (sFr w)).objs.size, l] := by
          rw [Heap.size_push]; simp only [List.mem_cons, List.mem_singleton, List.not_mem_nil, or_false, not_or]
          exact ⟨Nat.ne_of_lt (Nat.lt_succ_self _), Nat.ne_of_gt hlS⟩
        have hval : ∀ (i : Nat) (v : Value), items[i]? = some v → ∃ k t, ns[i]? = some k ∧ v = .int k t := fun i v hv => by
          have hi : i < ns.length := by rw [← hisz]; exact (Array.getElem?_eq_some_iff.mp hv).1
          obtain ⟨t, e⟩ := PyProof.Rows.IntsAre.int_at hit i v (by rw [Array.getElem?_toList]; exact hv)
          refine ⟨ns[i], t, List.getElem?_eq_getElem hi, ?_⟩
          rw [e, List.getD_eq_getElem?_getD, List.getElem?_eq_getElem hi] <;> rfl
        refine set_update_ints ((Walks.list hh3 _ l hneI items).toS) s.heap.objs.size
          hSf ns hisz hb hval (items.size - 0) 0 _ (by omega) (Nat.zero_le _)
          ⟨⟨_, Heap.get?_push_size _ rfl, rfl, rfl⟩, (hl1.push _)⟩ ?hS0 ?hR
        case hS0 =>
          have hget : ((s.heap.push (sFr w)).push { cls := .type "list_iterator", data := .fields #[.ref l, .int 0 0] }).get? s.heap.objs.size
              = some (sFr w) := Heap.get?_push_of_some _ hS
          exact ⟨0, Nat.le_refl 0, setR_new_at hget⟩
        case hR =>
          intro s' c' hm hc' hS'
          obtain ⟨h', g2, d', tk', os'⟩ := s'
          have eg : g2 = s.gens := hm.gens
          have ed : d' = s.drawn := hm.drawn
          have eo : os' = s.os := hm.os
          subst eg; subst ed; subst eo
          show wpAny _ _ _ _ _ _
          refine wpAny_pure ?_
          show wpAny _ _ (ret Value.none) _ _ _
          rw [hisz] at hc'
          refine wpAny_pure ⟨rfl, h', tk', c', rfl, hS', hc', fun b o e => ?_⟩
          have hb0 : b < s.heap.objs.size := Heap.lt_size e
          have hb1 : b ≠ s.heap.objs.size := Nat.ne_of_lt hb0
          have hb2 : b ≠ (s.heap.push (sFr w)).objs.size := by
            rw [Heap.size_push]; exact Nat.ne_of_lt (Nat.lt_succ_of_lt hb0)
          exact hm.heap b o (by simp only [List.mem_cons, List.mem_singleton, List.not_mem_nil, or_false, not_or]; exact ⟨hb1, hb2⟩) (Heap.get?_push_of_some _ (Heap.get?_push_of_some _ e))

      · cases r₂ with
        | error e => exact hr₂
        | ok fl₂ =>
          cases fl₂ with
          | ret r =>
            obtain ⟨rfl, h', tk, c', rfl, hS', hc', hk'⟩ := hr₂
            repeat (any_goals (first | assumption | wp_step))
            exact h _ _ _ hS' hc' hk'
          | _ => exact hr₂.elim
    | _ => exact hr.elim
end
theorem insU_mem (x k : Int) : ∀ l : List Int, k ∈ insU x l ↔ k = x ∨ k ∈ l
  | [] => by simp [insU]
  | y :: ys => by
    unfold insU
    split
    · simp
    · split
      · rw [List.mem_cons, insU_mem x k ys, List.mem_cons]
        constructor
        · rintro (h | h | h)
          · exact .inr (.inl h)
          · exact .inl h
          · exact .inr (.inr h)
        · rintro (h | h | h)
          · exact .inr (.inl h)
          · exact .inl h
          · exact .inr (.inr h)
      · have : x = y := by omega
        subst this
        rw [List.mem_cons]
        constructor
        · exact fun h => .inr h
        · rintro (h | h)
          · exact .inl h
          · exact h
theorem insU_srt (x : Int) : ∀ {l : List Int}, l.Pairwise (· < ·) → (insU x l).Pairwise (· < ·)
  | [], _ => List.pairwise_singleton _ _
  | y :: ys, h => by
    obtain ⟨h1, h2⟩ := List.pairwise_cons.mp h
    unfold insU
    split
    · rename_i q
      refine List.pairwise_cons.mpr ⟨fun z hz => ?_, h⟩
      rcases List.mem_cons.mp hz with e | e
      · rw [e]; exact q
      · exact Int.lt_trans q (h1 z e)
    · split
      · rename_i q
        refine List.pairwise_cons.mpr ⟨fun z hz => ?_, insU_srt x h2⟩
        rcases (insU_mem x z ys).mp hz with e | e
        · rw [e]; exact q
        · exact h1 z e
      · exact h
theorem stI_srt : ∀ l : List Int, (stI l).Pairwise (· < ·)
  | [] => List.Pairwise.nil
  | x :: xs => insU_srt x (stI_srt xs)
theorem stI_mem (k : Int) : ∀ l : List Int, k ∈ stI l ↔ k ∈ l
  | [] => Iff.rfl
  | x :: xs => by
    show k ∈ insU x (stI xs) ↔ _
    rw [insU_mem, stI_mem k xs, List.mem_cons]
theorem srt_uniq {l m : List Int} (h1 : l.Pairwise (· < ·)) (h2 : m.Pairwise (· < ·)) (e : ∀ k, k ∈ l ↔ k ∈ m) : l = m :=
  List.Perm.eq_of_pairwise (fun a b _ _ h1 h2 => absurd (Int.lt_trans h1 h2) (Int.lt_irrefl _)) h1 h2 ((List.perm_ext_iff_of_nodup (h1.imp fun h => Int.ne_of_lt h) (h2.imp fun h => Int.ne_of_lt h)).mpr e)
theorem stI_of {l ns : List Int} (h1 : l.Pairwise (· < ·)) (e : ∀ k, k ∈ l ↔ k ∈ ns) : l = stI ns := srt_uniq h1 (stI_srt ns) fun k => by rw [e, stI_mem]
theorem mq_sorted_ex (ns : List Int) : ∃ l : List Int, l.Pairwise (· < ·) ∧ ∀ k : Int, k ∈ l ↔ k ∈ ns := ⟨stI ns, stI_srt ns, fun k => stI_mem k ns⟩
section
variable {X : Cx}
/-- set(xs), then what is asked of it -/
def tSet (K : PySem.W.Frag) (t : Bool) (te : TE) : TE := fun σ H Q => te σ H fun x H1 => ∃ (a : Addr) (ns : List Int), x = .ref a ∧ (SqL K H1 a (ns.map V.int) ∨ SqT K H1 a (ns.map V.int)) ∧ ns.length < 64 ∧
  ∀ l : List Int, l.Pairwise (· < ·) → (∀ k : Int, k ∈ l ↔ k ∈ ns) → ((t = false ∧ ∀ q, H1 q = none → Q (.ref q) (upd H1 q (.lst (l.map V.int)))) ∨ (t = true ∧ Q (.int (l.length : Nat)) H1))
abbrev stNm (t : Bool) : Str := cond t "len" "sorted"
theorem pe_set {t : Bool} {a : Expr} {ta : TE} {p p2 q pos : Pos} (hc : X.calm = true) (hg : Gl X (stNm t)) (hm : X.mg (stNm t) = none) (hg2 : Gl X "set") (hm2 : X.mg "set" = none) (ha : PE X a ta)
    (na : starEach [a] X.env = (false, eval a X.env) :: starEach [] X.env := by rfl) : PE X (.Call (.Name (stNm t) p) [.Call (.Name "set" p2) [a] [] q] [] pos) (tSet X.K t ta) := by
  refine ⟨fun pins s σ H Q I h => ?_⟩
  have hin : ∀ Q' : Value → Shared → Prop, (∀ (s1 : Shared) (H1 : Hp) (S : Addr) (c : Nat) (ns : List Int), Inv X pins σ H1 s1 → SetR X.w s1.heap S (fun j => decide (j ∈ ns)) c → ns.length < 64 → c ≤ ns.length →
      (∀ l : List Int, l.Pairwise (· < ·) → (∀ k : Int, k ∈ l ↔ k ∈ ns) → ((t = false ∧ ∀ q, H1 q = none → Q (.ref q) (upd H1 q (.lst (l.map V.int)))) ∨ (t = true ∧ Q (.int (l.length : Nat)) H1))) → Q' (.ref S) s1) →
      wpAny (model X.prog X.w) X.A (eval (.Call (.Name "set" p2) [a] [] q) X.env) Q' X.xe s := fun Q' hQ => by
    refine Call_ (ld_blt I hg2 hm2 PyProof.Rows.boot_set ?_)
    refine PyProof.Rows.callWith_type1 (PyProof.Rows.args_cons (thn (ha.run pins s σ H _ I h) fun v s1 ⟨x, H1, I1, r1, q1⟩ => PyProof.Rows.args_nil ?_) na) na
    obtain ⟨b, ns, rfl, hq, h1, q1⟩ := q1
    cases r1
    rcases hq with hq | hq
    · obtain ⟨its, r, pl, hz⟩ := I1.list hq
      refine mq_set_list (ns := ns) (I1.ok.hd hc) pl.isList (by simpa using r.ints) (by unfold scanBound; omega) fun h' tk c hS hle hk => ?_
      exact hQ { s1 with heap := h', toks := tk } H1 _ c ns (I1.kept hk) hS h1 hle q1
    · obtain ⟨its, r, pl, hz⟩ := I1.tuple hq
      refine call_set_tupI (ns := ns) (I1.ok.hd hc) pl (by simpa using r.ints) (by unfold scanBound; omega) fun h' tk c hS hle hk => ?_
      exact hQ { s1 with heap := h', toks := tk } H1 _ c ns (I1.kept hk) hS h1 hle q1
  have nb : starEach [.Call (.Name "set" p2) [a] [] q] X.env = (false, eval (.Call (.Name "set" p2) [a] [] q) X.env) :: starEach [] X.env := rfl
  cases t with
  | true =>
    refine Call_ (ld_blt I hg hm PySem.boot_len ?_)
    refine PyProof.Rows.callWith_builtin1 (PyProof.Rows.args_cons (hin _ fun s1 H1 S c ns I1 hS h64 hle q1 => PyProof.Rows.args_nil ?_) nb) nb rfl
    obtain ⟨o, es, ep, tb, ho, hex, hd, g, nd, hmm, hb, hf, hn, hr, hl⟩ := hS
    have hes : es.size = (es.toList.map keyOf).length := by rw [List.length_map, Array.length_toList]
    have srt : ∀ l : List Int, l.Pairwise (· < ·) → (∀ k : Int, k ∈ l ↔ k ∈ ns) → l.length = es.size := fun l h1 h2 => by
      have hnd : l.Nodup := h1.imp fun h => Int.ne_of_lt h
      have hp : l.Perm (es.toList.map keyOf) := (List.perm_ext_iff_of_nodup hnd nd).mpr fun k => by
        rw [h2 k, ← hmm k, decide_eq_true_eq]
      rw [hp.length_eq, hes]
    obtain ⟨l, l1, l2⟩ : ∃ l : List Int, l.Pairwise (· < ·) ∧ ∀ k : Int, k ∈ l ↔ k ∈ ns := by
      have h3 := SetR.congr (S' := fun j => decide (j ∈ ns)) (show SetR X.w s1.heap S (fun j => decide (j ∈ ns)) c from ⟨o, es, ep, tb, ho, hex, hd, g, nd, hmm, hb, hf, hn, hr, hl⟩) fun _ => rfl
      exact mq_sorted_ex ns
    have q2 := (q1 l l1 l2).resolve_left fun z => Bool.noConfusion z.1
    refine call_len_set ho hex hd hf (by omega) ⟨.int es.size, H1, I1.tok _, ⟨_, rfl⟩, ?_⟩
    rw [← srt l l1 l2]
    exact q2.2
  | false =>
    refine Call_ (ld_blt I hg hm PyProof.Rows.boot_sorted ?_)
    refine PyProof.Rows.callWith_builtin1 (PyProof.Rows.args_cons (hin _ fun s1 H1 S c ns I1 hS h64 hle q1 => PyProof.Rows.args_nil ?_) nb) nb rfl
    refine sorted_set hS (I1.ok.hd hc) (by omega) fun s' p out cc l k g o hp hgt hi hs hmm hl => ?_
    have hlen : (l.map V.int).length ≤ sizeLine := by rw [List.length_map, hl, sizeLine_eq]; omega
    have hn : H1 p = none := I1.hok.fresh hp
    have J : Inv X pins σ (upd H1 p (.lst (l.map V.int))) { s1 with heap := s'.heap, gens := s'.gens, drawn := s'.drawn, toks := s'.toks } :=
      I1.call (ch := []) (Un.laid k hp hn) (I1.hok.laid k hp ⟨hlen, out.toList, cc, vals_of_ints hi, hgt⟩) (by rw [g]; exact I1.bare) (fun _ z => nomatch z)
    have e : s' = { s1 with heap := s'.heap, gens := s'.gens, drawn := s'.drawn, toks := s'.toks } := by
      cases s'
      cases s1
      cases o
      rfl
    rw [e]
    have q2 := (q1 l hs fun k => by rw [hmm k, decide_eq_true_eq]).resolve_right fun z => Bool.noConfusion z.1
    exact ⟨.ref p, _, J, rfl, q2.2 _ hn⟩
end
end Mp
set_option Elab.async false
set_option linter.all false
set_option maxRecDepth 100000
set_option maxHeartbeats 1000000
/-! # Mp: zip of any two iterators that stand still between turns (here: a list's and a tuple's). -/
namespace RZ
open PySem
open PySem.Sem (wp)
/-- an iterator i over the items xs of l -/
structure Nx (prog : Program) (w : World) (i l : Addr) (xs : Array Value) (J : Nat → Heap → Prop) : Prop where
  kept : ∀ {k : Nat} {h h' : Heap}, (∀ o, h.get? i = some o → h'.get? i = some o) → (∀ o, h.get? l = some o → h'.get? l = some o) → J k h → J k h'
  item : ∀ {A : Around} {E : Value → Shared → Prop} {s : Shared} {k : Nat} {x : Value} {Q : Value → Shared → Prop}, J k s.heap → xs[k]? = some x →
    (∀ h', J (k + 1) h' → Heap.SameBut i s.heap h' → Q x { s with heap := h' }) → wpAny (model prog w) A (Builtin.SmallTypes.nextOf (.ref i)) Q E s
  stop : ∀ {A : Around} {E : Value → Shared → Prop} {s : Shared} {k : Nat} {Q : Value → Shared → Prop}, A.handled = none → J k s.heap → xs[k]? = none →
    (∀ h' e, Heap.ExtBut i s.heap h' → (∃ o, h'.get? e = some o ∧ o.cls = .type "StopIteration") → E (.ref e) { s with heap := h' }) → wpAny (model prog w) A (Builtin.SmallTypes.nextOf (.ref i)) Q E s
section
variable {prog : Program} {w : World} {A : Around} {E : Value → Shared → Prop} {s : Shared}
theorem Nx.ext {i l j : Addr} {xs : Array Value} {J : Nat → Heap → Prop} (n : Nx prog w i l xs J) {k : Nat} {h h' : Heap} (e : Heap.ExtBut j h h') (h1 : i ≠ j) (h2 : l ≠ j) (q : J k h) : J k h' :=
  n.kept (fun o z => e _ _ h1 z) (fun o z => e _ _ h2 z) q
theorem nx_list {i l : Addr} (xs : Array Value) (hl : l ≠ i) : Nx prog w i l xs fun k h => h.IsListIter i l k ∧ h.IsList l xs where
  kept := fun h1 h2 q => ⟨q.1.at h1, by
    obtain ⟨o, e, c, n, d⟩ := q.2
    exact ⟨o, h2 o e, c, n, d⟩⟩
  item := fun q hx hQ => wpAny_nextOf_list_item q.1 q.2 hx fun h' a b => hQ h' ⟨a, q.2.extBut b.extBut hl⟩ b
  stop := fun hh q hx hE => wpAny_nextOf_list_end hh q.1 q.2 hx hE
theorem nx_tuple {i l : Addr} (xs : Array Value) (hl : l ≠ i) : Nx prog w i l xs fun k h => h.IsTupleIter i l k ∧ h.IsTuple l xs where
  kept := fun h1 h2 q => ⟨q.1.at h1, by
    obtain ⟨o, e, c, n, d⟩ := q.2
    exact ⟨o, h2 o e, c, n, d⟩⟩
  item := fun q hx hQ => nextOf_tuple_item q.1 q.2 hx fun h' a b => hQ h' ⟨a, q.2.extBut b.extBut hl⟩ b
  stop := fun hh q hx hE => nextOf_tuple_end hh q.1 q.2 hx hE
section
variable {z TI TO i1 i2 l1 l2 : Addr} {k1 k2 : Nat} {xs ys : Array Value} {x y a b : Value} {J1 J2 : Nat → Heap → Prop}
/-- zip's head: up to the first draw -/
theorem zipN_open {Q : Fin → Shared → Prop} (D : ZipApart z TI TO i1 i2 l1 l2) (n1 : Nx prog w i1 l1 xs J1) (n2 : Nx prog w i2 l2 ys J2)
    (hz : IsZip s.heap z TI TO .none) (hTI : IsPair s.heap TI (.ref i1) (.ref i2)) (hTO : IsPair s.heap TO a b) (h1 : J1 k1 s.heap) (h2 : J2 k2 s.heap)
    (hstop : A.handled = none → xs[k1]? = none ∨ ys[k2]? = none → ∀ h' e, (∀ c o, c ≠ z → c ≠ TO → c ≠ i1 → c ≠ i2 → s.heap.get? c = some o → h'.get? c = some o) → (∃ o, h'.get? e = some o ∧ o.cls = .type "StopIteration") → E (.ref e) { s with heap := h' })
    (hitem : ∀ x y, xs[k1]? = some x → ys[k2]? = some y → ∀ h', IsZip h' z TI TO (rawInt s.heap.objs.size) → IsPair h' TO x y → J1 (k1 + 1) h' → J2 (k2 + 1) h' → IsPair h' s.heap.objs.size x y → h'.objs.size = s.heap.objs.size + 1 →
      (∀ c o, c ≠ z → c ≠ TO → c ≠ i1 → c ≠ i2 → s.heap.get? c = some o → h'.get? c = some o) → Q (.done (.ret (.ref s.heap.objs.size))) { s with heap := h' })
    (hh : xs[k1]? = none ∨ ys[k2]? = none → A.handled = none) :
    wpAny (model prog w) A (Builtin.«zip.__next__» ⟨[.ref z], []⟩) Q E s := by
  show wpAny _ _ (field (.ref z) 2 >>= _) _ _ _
  refine wpAny_bind (wpAny_field hz rfl (x := .bool false) rfl ?_)
  show wpAny _ _ (field (.ref z) 3 >>= _) _ _ _
  refine wpAny_bind (wpAny_field hz rfl (x := .ref TI) rfl (wpAny_bind (wpAny_seqItems hTI rfl ?_)))
  show wpAny _ _ (Builtin.SmallTypes.ownedTupleIsFree (.ref z) >>= _) _ _ _
  refine wpAny_bind ?_
  unfold Builtin.SmallTypes.ownedTupleIsFree
  refine wpAny_bind (wpAny_field hz rfl (x := .none) rfl (wpAny_pure ?_))
  simp only [if_true]
  refine wpAny_bind (wpAny_rule (wpAny_bind (wpAny_field hz rfl (x := .ref TO) rfl (wpAny_bind (wpAny_setField_rec hz (by simp) fun g1 zg1 sg1 => ?_)))))
  replace zg1 : IsZip g1 z TI TO .ellipsis := zg1
  refine wpAny_bind ?_
  simp only [List.zipIdx_cons, List.zipIdx_nil, List.forIn_cons, List.forIn_nil]
  refine wpAny_bind (wpAny_bind (wpAny_onRaise ?_))
  show wpAny _ _ (Builtin.SmallTypes.nextOf (.ref i1) >>= _) _ _ _
  have j1 : J1 k1 g1 := n1.ext sg1.extBut D.i1z D.l1z h1
  cases hx : xs[k1]? with
  | none =>
    refine wpAny_bind (n1.stop (hh (.inl hx)) j1 hx fun g2 e sg2 ⟨oe, hoe, hce⟩ => ?_)
    have zg2 : IsZip g2 z TI TO .ellipsis := sg2 _ _ D.i1z.symm zg1
    have hez : e ≠ z := fun q => by subst q; rw [zg2] at hoe; cases hoe; simp at hce
    exact wpAny_setField_rec zg2 (by simp) fun g3 _ sg3 => hstop (hh (.inl hx)) (.inl hx) g3 e (fun c o c1 _ c3 _ q => sg3.extBut _ _ c1 (sg2 _ _ c3 (sg1.extBut _ _ c1 q))) ⟨oe, sg3.extBut _ _ hez hoe, hce⟩
  | some x =>
    refine wpAny_bind (n1.item j1 hx fun g2 j2 sg2 => wpAny_pure ?_)
    have t2 : IsPair g2 TO a b := sg2.extBut _ _ D.TOi1 (sg1.extBut _ _ D.TOz hTO)
    refine wpAny_bind (wpAny_seqItems t2 rfl (wpAny_bind (wpAny_updateSeq_pair t2 fun g3 t3 sg3 => ?_)))
    replace t3 : IsPair g3 TO x b := t3
    refine wpAny_bind (wpAny_letGo (wpAny_pure (wpAny_bind (wpAny_bind (wpAny_onRaise ?_)))))
    show wpAny _ _ (Builtin.SmallTypes.nextOf (.ref i2) >>= _) _ _ _
    have m3 : J2 k2 g3 := n2.ext sg3.extBut D.TOi2.symm D.l2TO (n2.ext sg2.extBut D.i12.symm D.l2i1 (n2.ext sg1.extBut D.i2z D.l2z h2))
    cases hy : ys[k2]? with
    | none =>
      refine wpAny_bind (n2.stop (hh (.inr hy)) m3 hy fun g4 e sg4 ⟨oe, hoe, hce⟩ => ?_)
      have zg4 : IsZip g4 z TI TO .ellipsis := sg4 _ _ D.i2z.symm (sg3.extBut _ _ D.TOz.symm (sg2.extBut _ _ D.i1z.symm zg1))
      have hez : e ≠ z := fun q => by subst q; rw [zg4] at hoe; cases hoe; simp at hce
      exact wpAny_setField_rec zg4 (by simp) fun g5 _ sg5 => hstop (hh (.inr hy)) (.inr hy) g5 e (fun c o c1 c2 c3 c4 q => sg5.extBut _ _ c1 (sg4 _ _ c4 (sg3.extBut _ _ c2 (sg2.extBut _ _ c3 (sg1.extBut _ _ c1 q))))) ⟨oe, sg5.extBut _ _ hez hoe, hce⟩
    | some y =>
      refine wpAny_bind (n2.item m3 hy fun g4 m4 sg4 => wpAny_pure ?_)
      have t4 : IsPair g4 TO x b := sg4.extBut _ _ D.TOi2 t3
      refine wpAny_bind (wpAny_seqItems t4 rfl (wpAny_bind (wpAny_updateSeq_pair t4 fun g5 t5 sg5 => ?_)))
      replace t5 : IsPair g5 TO x y := t5
      refine wpAny_bind (wpAny_letGo (wpAny_pure (wpAny_pure (wpAny_bind (wpAny_seqItems t5 rfl (wpAny_bind (wpAny_newTuple ?_)))))))
      have hsz : g5.objs.size = s.heap.objs.size := by rw [sg5.1, sg4.1, sg3.1, sg2.1, sg1.1]
      have zg5 : IsZip g5 z TI TO .ellipsis := sg5.extBut _ _ D.TOz.symm (sg4.extBut _ _ D.i2z.symm (sg3.extBut _ _ D.TOz.symm (sg2.extBut _ _ D.i1z.symm zg1)))
      have hk : ∀ c o, c ≠ z → c ≠ TO → c ≠ i1 → c ≠ i2 → s.heap.get? c = some o → g5.get? c = some o := fun c o c1 c2 c3 c4 e =>
        sg5.extBut _ _ c2 (sg4.extBut _ _ c4 (sg3.extBut _ _ c2 (sg2.extBut _ _ c3 (sg1.extBut _ _ c1 e))))
      have j5 : J1 (k1 + 1) g5 := n1.ext sg5.extBut D.TOi1.symm D.l1TO (n1.ext sg4.extBut D.i12 D.l1i2 (n1.ext sg3.extBut D.TOi1.symm D.l1TO j2))
      have m5 : J2 (k2 + 1) g5 := n2.ext sg5.extBut D.TOi2.symm D.l2TO m4
      have hzlt : z < g5.objs.size := Heap.lt_size zg5
      show wpAny _ _ (Builtin.SmallTypes.ownedTupleHandOut (.ref z) (.ref g5.objs.size) >>= _) _ _ _
      refine wpAny_bind ?_
      unfold Builtin.SmallTypes.ownedTupleHandOut
      have zg6 : IsZip (g5.push { cls := .type "tuple", data := .seq #[x, y] }) z TI TO .ellipsis := Heap.get?_push_of_some _ zg5
      refine wpAny_bind (wpAny_setField_rec zg6 (by simp) fun g7 zg7 sg7 => ?_)
      replace zg7 : IsZip g7 z TI TO (rawInt g5.objs.size) := zg7
      refine wpAny_setField_rec zg7 (by simp) fun g8 zg8 sg8 => ?_
      replace zg8 : IsZip g8 z TI TO (rawInt g5.objs.size) := zg8
      have up : ∀ c o, c ≠ z → g5.get? c = some o → g8.get? c = some o := fun c o c1 e => sg8.extBut _ _ c1 (sg7.extBut _ _ c1 (Heap.get?_push_of_some _ e))
      have t8 : IsPair g8 g5.objs.size x y := sg8.extBut _ _ (Nat.ne_of_gt hzlt) (sg7.extBut _ _ (Nat.ne_of_gt hzlt) (Heap.get?_push_size _ rfl))
      have n8 : g8.objs.size = g5.objs.size + 1 := by rw [sg8.1, sg7.1, Heap.size_push]
      rw [hsz] at zg8 t8 n8
      refine wpAny_pure ?_
      have fin := hitem x y hx hy g8 zg8 (up _ _ D.TOz t5) (n1.kept (fun o => up _ o D.i1z) (fun o => up _ o D.l1z) j5) (n2.kept (fun o => up _ o D.i2z) (fun o => up _ o D.l2z) m5) t8 n8 fun c o c1 c2 c3 c4 e => up c o c1 (hk c o c1 c2 c3 c4 e)
      rw [← hsz] at fin
      exact fin
theorem pyNext_item {Q : Option Value → Shared → Prop} (D : ZipApart z TI TO i1 i2 l1 l2) (n1 : Nx prog w i1 l1 xs J1) (n2 : Nx prog w i2 l2 ys J2)
    (hz : IsZip s.heap z TI TO .none) (hTI : IsPair s.heap TI (.ref i1) (.ref i2)) (hTO : IsPair s.heap TO a b) (h1 : J1 k1 s.heap) (h2 : J2 k2 s.heap) (hx : xs[k1]? = some x) (hy : ys[k2]? = some y)
    (hQ : ∀ h', IsZip h' z TI TO (rawInt s.heap.objs.size) → IsPair h' TO x y → J1 (k1 + 1) h' → J2 (k2 + 1) h' → IsPair h' s.heap.objs.size x y → h'.objs.size = s.heap.objs.size + 1 →
      (∀ c o, c ≠ z → c ≠ TO → c ≠ i1 → c ≠ i2 → s.heap.get? c = some o → h'.get? c = some o) → Q (some (.ref s.heap.objs.size)) { s with heap := h' }) :
    wpAny (model prog w) A (pyNext (.ref z)) Q E s := by
  have hT : s.TypeIs (.ref z) "zip" := ⟨_, hz, rfl⟩
  have no : ¬ (xs[k1]? = none ∨ ys[k2]? = none) := fun q => by rcases q with q | q <;> simp_all
  unfold pyNext
  refine wpAny_bind (wpAny_attempt (wpAny_callSpecial?_slot (name := Str.ofString "__next__") hT F.slot_zip_next (wpAny_call_entry F.slot_zip_next hT F.entry_zip_next ?_ (F.args_zip_next_1 _))))
  refine zipN_open D n1 n2 hz hTI hTO h1 h2 (fun _ q => absurd q no) (fun x' y' ex ey h' a1 a2 a3 a4 a5 a6 a7 => ?_) (fun q => absurd q no)
  rw [hx] at ex
  rw [hy] at ey
  cases ex
  cases ey
  exact ⟨_, rfl, wpAny_pure (hQ h' a1 a2 a3 a4 a5 a6 a7)⟩
theorem pyNext_stop {Q : Option Value → Shared → Prop} (hh : A.handled = none) (D : ZipApart z TI TO i1 i2 l1 l2) (n1 : Nx prog w i1 l1 xs J1) (n2 : Nx prog w i2 l2 ys J2)
    (hz : IsZip s.heap z TI TO .none) (hTI : IsPair s.heap TI (.ref i1) (.ref i2)) (hTO : IsPair s.heap TO a b) (h1 : J1 k1 s.heap) (h2 : J2 k2 s.heap) (hend : xs[k1]? = none ∨ ys[k2]? = none)
    (hQ : ∀ h', (∀ c o, c ≠ z → c ≠ TO → c ≠ i1 → c ≠ i2 → s.heap.get? c = some o → h'.get? c = some o) → Q none { s with heap := h' }) : wpAny (model prog w) A (pyNext (.ref z)) Q E s := by
  have hT : s.TypeIs (.ref z) "zip" := ⟨_, hz, rfl⟩
  unfold pyNext
  refine wpAny_bind (wpAny_attempt (wpAny_callSpecial?_slot (name := Str.ofString "__next__") hT F.slot_zip_next (wpAny_call_entry F.slot_zip_next hT F.entry_zip_next ?_ (F.args_zip_next_1 _))))
  refine zipN_open D n1 n2 hz hTI hTO h1 h2 (fun _ _ h' e hk ⟨o, ho, hc⟩ => ?_) (fun x y ex ey => by rcases hend with q | q <;> simp_all) (fun _ => hh)
  refine wpAny_bind (wpAny_isInstance (T := "StopIteration") (b := true) ⟨o, ho, hc⟩ isSubtype_stop ?_)
  exact wpAny_pure (hQ _ hk)
end
end
/-! ### zip(list, tuple) -/
abbrev mx1 (h : Heap) (l1 : Addr) : Heap := h.push { cls := .type "list_iterator", data := .fields #[.ref l1, .int 0 0] }
abbrev mx2 (h : Heap) (l1 l2 : Addr) : Heap := (mx1 h l1).push { cls := .type "tuple_iterator", data := .fields #[.ref l2, .int 0 0] }
abbrev mx3 (h : Heap) (l1 l2 : Addr) : Heap := (mx2 h l1 l2).push { cls := .type "tuple", data := .seq #[.ref h.objs.size, .ref (mx1 h l1).objs.size] }
abbrev mx4 (h : Heap) (l1 l2 : Addr) : Heap := (mx3 h l1 l2).push { cls := .type "tuple", data := .seq #[.none, .none] }
abbrev mx5 (h : Heap) (l1 l2 : Addr) : Heap := (mx4 h l1 l2).push { cls := .type "zip", data := .fields #[.none, .bool false, .bool false, .ref (mx2 h l1 l2).objs.size, .ref (mx3 h l1 l2).objs.size] }
theorem meets_mx (l1 l2 : Addr) (xs ys : Array Value) :
    Meets (Builtin.«zip.__new__» ⟨[.type "zip", .ref l1, .ref l2], []⟩) (fun _ R s => s.heap.IsList l1 xs ∧ s.heap.IsTuple l2 ys ∧ R (.ok (.ret (.ref (mx4 s.heap l1 l2).objs.size))) { s with heap := mx5 s.heap l1 l2 }) :=
  .of_wp fun prog w A R s h => by
    obtain ⟨hp, g, d, tk, os⟩ := s; obtain ⟨hl1, hl2, h⟩ := h
    have hsub := sub_zip
    have hL1 : Heap.IsList (Shared.heap ⟨hp, g, d, tk, os⟩) l1 xs := hl1
    have hL2 : Heap.IsTuple (Shared.heap ⟨hp.push { cls := .type "list_iterator", data := .fields #[.ref l1, .int 0 0] }, g, d, tk, os⟩) l2 ys := Heap.IsTuple.push hl2 _
    wp_walk using wpAny_pyIter_list hL1, wpAny_pyIter_tuple hL2
    exact ⟨_, rfl, h⟩
section
variable {prog : Program} {w : World} {A : Around} {E : Value → Shared → Prop} {s : Shared}
theorem call_mx {l1 l2 : Addr} {xs ys : Array Value} {Q : Value → Shared → Prop} (hl1 : s.heap.IsList l1 xs) (hl2 : s.heap.IsTuple l2 ys)
    (h : ∀ h', IsZip h' (s.heap.objs.size + 4) (s.heap.objs.size + 2) (s.heap.objs.size + 3) .none → IsPair h' (s.heap.objs.size + 2) (.ref s.heap.objs.size) (.ref (s.heap.objs.size + 1)) →
      IsPair h' (s.heap.objs.size + 3) .none .none → h'.IsListIter s.heap.objs.size l1 0 → h'.IsTupleIter (s.heap.objs.size + 1) l2 0 →
      (∀ c o, s.heap.get? c = some o → h'.get? c = some o) → Q (.ref (s.heap.objs.size + 4)) { s with heap := h' }) :
    wpAny (model prog w) A (call (.type "zip") [.ref l1, .ref l2]) Q E s := by
  refine callType_new F.called_zip (by decide) (F.typeCall_zip_2 _ _) (F.newCall_zip_2 _ _) (fun obj => F.args_object_init_3 obj _ _) F.entry_zip_new (meets_mx l1 l2 xs ys) ⟨hl1, hl2, ?_⟩
  have z1 : (mx1 s.heap l1).objs.size = s.heap.objs.size + 1 := Heap.size_push ..
  have z2 : (mx2 s.heap l1 l2).objs.size = s.heap.objs.size + 2 := by rw [Heap.size_push, z1]
  have z3 : (mx3 s.heap l1 l2).objs.size = s.heap.objs.size + 3 := by rw [Heap.size_push, z2]
  have z4 : (mx4 s.heap l1 l2).objs.size = s.heap.objs.size + 4 := by rw [Heap.size_push, z3]
  have keep : ∀ {c o}, s.heap.get? c = some o → (mx5 s.heap l1 l2).get? c = some o := fun x => Heap.get?_push_of_some _ (Heap.get?_push_of_some _ (Heap.get?_push_of_some _ (Heap.get?_push_of_some _ (Heap.get?_push_of_some _ x))))
  have g5 : (mx5 s.heap l1 l2).get? (mx4 s.heap l1 l2).objs.size = some _ := Heap.get?_push_size _ rfl
  have g4 : (mx5 s.heap l1 l2).get? (mx3 s.heap l1 l2).objs.size = some _ := Heap.get?_push_of_some _ (Heap.get?_push_size _ rfl)
  have g3 : (mx5 s.heap l1 l2).get? (mx2 s.heap l1 l2).objs.size = some _ := Heap.get?_push_of_some _ (Heap.get?_push_of_some _ (Heap.get?_push_size _ rfl))
  have g2 : (mx5 s.heap l1 l2).get? (mx1 s.heap l1).objs.size = some _ := Heap.get?_push_of_some _ (Heap.get?_push_of_some _ (Heap.get?_push_of_some _ (Heap.get?_push_size _ rfl)))
  have g1 : (mx5 s.heap l1 l2).get? s.heap.objs.size = some _ := Heap.get?_push_of_some _ (Heap.get?_push_of_some _ (Heap.get?_push_of_some _ (Heap.get?_push_of_some _ (Heap.get?_push_size _ rfl))))
  show _ ∧ _
  rw [z2, z3, z4] at g5
  rw [z1, z2] at g3
  rw [z3] at g4
  rw [z1] at g2
  rw [z4]
  exact ⟨⟨_, g5, rfl⟩, h _ g5 g3 g4 ⟨_, g1, rfl, rfl⟩ ⟨_, g2, rfl, rfl⟩ fun c o x => keep x⟩
end
end RZ
namespace RZ
open PySem PySem.Spec PyProof.Rows L2
/-- zip of the list at a and the tuple at b -/
def ItzM (K : PySem.W.Frag) (a b : Addr) : It :=
  ⟨fun i H => ∃ (xs ys : List V) (x y : V), SqL K H a xs ∧ SqT K H b ys ∧ xs[i]? = some x ∧ ys[i]? = some y,
    fun i H v H' => ∃ T x y, v = .ref T ∧ H T = none ∧ H' = upd H T (.tup [x, y]) ∧ (∀ xs, SqL K H a xs → xs[i]? = some x) ∧ ∀ ys, SqT K H b ys → ys[i]? = some y,
    fun i H => ∃ xs ys : List V, SqL K H a xs ∧ SqT K H b ys ∧ (xs.length ≤ i ∨ ys.length ≤ i)⟩
theorem turn_zipM {P : Program} {w : World} {K : PySem.W.Frag} {elts : List Expr} {kk : Nat} {tpos : Pos} {a b z TI TO i1 i2 : Addr} (D : ZipApart z TI TO i1 i2 a b) :
    Turn P w K (.Tuple elts kk tpos) (ItzM K a b) [z, TI, TO, i1, i2] z (fun i h => IsZip h z TI TO .none ∧ IsPair h TI (.ref i1) (.ref i2) ∧ (∃ x y, IsPair h TO x y) ∧ h.IsListIter i1 a i ∧ h.IsTupleIter i2 b i) where
  mem := by simp
  obj := fun i h st c hc => by
    obtain ⟨hz, hTI, ⟨x, y, hTO⟩, ⟨o1, e1, _, d1⟩, ⟨o2, e2, _, d2⟩⟩ := st
    have e' : c = z ∨ c = TI ∨ c = TO ∨ c = i1 ∨ c = i2 := by simpa using hc
    rcases e' with q | q | q | q | q <;> rw [q]
    · exact ⟨_, hz, fun v q => nomatch q⟩
    · exact ⟨_, hTI, fun v q => nomatch q⟩
    · exact ⟨_, hTO, fun v q => nomatch q⟩
    · exact ⟨o1, e1, fun v q => by rw [d1] at q; cases q⟩
    · exact ⟨o2, e2, fun v q => by rw [d2] at q; cases q⟩
  keep := fun i h h' st k => by
    obtain ⟨hz, hTI, ⟨x, y, hTO⟩, h1, h2⟩ := st
    exact ⟨k z (by simp) _ hz, k TI (by simp) _ hTI, ⟨x, y, k TO (by simp) _ hTO⟩, h1.at fun o q => k i1 (by simp) o q, h2.at fun o q => k i2 (by simp) o q⟩
  item := by
    intro X hP hw hK hc i pins s σ H E I hf st hg
    subst hP hw hK
    obtain ⟨hz, hTI, ⟨x0, y0, hTO⟩, h1, h2⟩ := st
    obtain ⟨xs, ys, x, y, hqx, hqy, hx, hy⟩ := hg
    obtain ⟨its, rv, p, _⟩ := I.list hqx
    obtain ⟨its2, rv2, p2, _⟩ := I.tuple hqy
    obtain ⟨u, hu, ru⟩ := rv.get hx
    obtain ⟨u2, hu2, ru2⟩ := rv2.get hy
    have hzl : z < s.heap.objs.size := Heap.lt_size hz
    refine pyNext_item D (nx_list its.toArray D.l1i1) (nx_tuple its2.toArray D.l2i2) hz hTI hTO ⟨h1, p.isList⟩ ⟨h2, p2⟩ (x := u) (y := u2) (by simpa using hu) (by simpa using hu2) fun h' z' TO' h1' h2' hT hsz hk => ?_
    refine ⟨_, rfl, wpAny_letOwnedTupleGo_zip (s := { s with heap := h' }) z' fun h'' z'' sb => ?_⟩
    have hT2 : h''.get? s.heap.objs.size = some { cls := .type "tuple", data := .seq #[u, u2] } := (sb.2 _ (Nat.ne_of_gt hzl)).trans hT
    have new : ObjOk X.prog X.w (upd H s.heap.objs.size (.tup [x, y])) h'' s.heap.objs.size (.tup [x, y]) := ⟨by show 2 ≤ sizeLine; decide, [u, u2], .cons ru (.cons ru2 .nil), ⟨_, hT2, rfl, _, rfl⟩⟩
    have I1 : Inv X pins σ (upd H s.heap.objs.size (.tup [x, y])) { s with heap := h'' } :=
      I.turnedNew (t' := s.toks) (ch := [z, TI, TO, i1, i2]) (fun c o hb q => (sb.2 c (fun q' => hb (by simp [q']))).trans (hk c o (fun q' => hb (by simp [q'])) (fun q' => hb (by simp [q'])) (fun q' => hb (by simp [q'])) (fun q' => hb (by simp [q'])) q)) hf (Nat.le_refl _) new
    refine ⟨.ref s.heap.objs.size, _, I1, rfl, ⟨_, x, y, rfl, I.hok.fresh (Nat.le_refl _), rfl, fun l hl => by rw [I.list_inj hl hqx]; exact hx, fun l hl => by rw [I.tuple_inj hl hqy]; exact hy⟩, ⟨z'', ?_, ⟨u, u2, ?_⟩, ?_, ?_⟩, fun c hcm => ?_⟩
    · exact (sb.2 _ D.TIz).trans (hk _ _ D.TIz D.TITO D.TIi1 D.TIi2 hTI)
    · exact (sb.2 _ D.TOz).trans TO'
    · exact h1'.1.at fun o q => (sb.2 _ D.i1z).trans q
    · exact h2'.1.at fun o q => (sb.2 _ D.i2z).trans q
    · have hlt : c < s.heap.objs.size := by
        have e' : c = z ∨ c = TI ∨ c = TO ∨ c = i1 ∨ c = i2 := by simpa using hcm
        rcases e' with q | q | q | q | q <;> rw [q]
        · exact hzl
        · exact Heap.lt_size hTI
        · exact Heap.lt_size hTO
        · obtain ⟨_, e1, _⟩ := h1; exact Heap.lt_size e1
        · obtain ⟨_, e2, _⟩ := h2; exact Heap.lt_size e2
      rw [upd_ne (Nat.ne_of_lt hlt)]
      exact (hf c hcm).1
  done := by
    intro X hP hw hK hc i pins s σ H E I hf st hg
    subst hP hw hK
    obtain ⟨hz, hTI, ⟨x0, y0, hTO⟩, h1, h2⟩ := st
    obtain ⟨xs, ys, hqx, hqy, hend⟩ := hg
    obtain ⟨its, rv, p, _⟩ := I.list hqx
    obtain ⟨its2, rv2, p2, _⟩ := I.tuple hqy
    have l1 := rv.length
    have l2 := rv2.length
    have he : its.toArray[i]? = none ∨ its2.toArray[i]? = none := by
      rcases hend with q | q
      · exact .inl (by simp; omega)
      · exact .inr (by simp; omega)
    exact pyNext_stop (I.ok.hd hc) D (nx_list its.toArray D.l1i1) (nx_tuple its2.toArray D.l2i2) hz hTI hTO ⟨h1, p.isList⟩ ⟨h2, p2⟩ he fun h' hk => ⟨rfl, I.turnedL (t' := s.toks) (ch := [z, TI, TO, i1, i2]) (fun c o hb q =>
      hk c o (fun q' => hb (by simp [q'])) (fun q' => hb (by simp [q'])) (fun q' => hb (by simp [q'])) (fun q' => hb (by simp [q'])) q) hf⟩
  self := fun A i s Q E st h => wpAny_pyIter_zip st.1 h
def iZipM (K : PySem.W.Frag) (ta : TA) : TI := fun σ H R => ta σ H fun vs H1 => ∃ a b xs ys, vs = [.ref a, .ref b] ∧
  ((SqL K H1 a xs ∧ SqL K H1 b ys ∧ R (Itz K a b) H1) ∨ (SqT K H1 a xs ∧ SqT K H1 b ys ∧ R (ItzT K a b) H1) ∨ (SqL K H1 a xs ∧ SqT K H1 b ys ∧ R (ItzM K a b) H1))
theorem iz_fresh {X : Cx} {pins : List (Addr × Obj)} {σ : L2.St} {H : Hp} {s : Shared} (I : Inv X pins σ H s) : ∀ c, c ∈ [s.heap.objs.size + 4, s.heap.objs.size + 2, s.heap.objs.size + 3, s.heap.objs.size, s.heap.objs.size + 1] → FpOk X pins H c := fun c hcm => by
  have hle : s.heap.objs.size ≤ c := by
    simp only [List.mem_cons, List.not_mem_nil, or_false] at hcm
    rcases hcm with z | z | z | z | z <;> rw [z] <;> first | exact Nat.le_add_right _ _ | exact Nat.le_refl _
  exact I.fpOk hle (I.hok.fresh hle)
theorem pi_zipM {X : Cx} {e e2 : Expr} {ta : TA} {p pos tpos : Pos} {elts : List Expr} {kk : Nat} (hg : Gl X "zip") (hm : X.mg "zip" = none) (ha : PA X [e, e2] ta)
    (hs : starEach [e, e2] X.env = (false, eval e X.env) :: starEach [e2] X.env) (hpl : (backTo pos (starEach [e2] X.env)).any (·.1) = false) :
    PI X (.Tuple elts kk tpos) (.Call (.Name "zip" p) [e, e2] [] pos) (iZipM X.K ta) := by
  refine ⟨fun pins s σ H R I h => ?_⟩
  refine Call_ (ld_blt I hg hm PyProof.Rows.boot_zip (PyProof.Rows.callWith_type1 (thn (ha.run pos pins s σ H _ I h) fun us s1 ⟨vs, H1, I1, r1, q1⟩ => ?_) hs hpl))
  obtain ⟨a, b, xs, ys, ex, q1⟩ := q1
  subst ex
  cases r1 with
  | cons r rr =>
    cases rr with
    | cons r' rr =>
      cases rr
      cases r
      cases r'
      rcases q1 with ⟨hqx, hqy, q⟩ | ⟨hqx, hqy, q⟩ | ⟨hqx, hqy, q⟩
      · obtain ⟨its, rv, p1, _⟩ := I1.list hqx
        obtain ⟨its2, rv2, p2, _⟩ := I1.list hqy
        refine call_zip_2 p1.isList p2.isList fun h' hz hTI hTO h1 h2 hsz hk => wpAny_pyIter_zip hz ?_
        exact ⟨_, [s1.heap.objs.size + 4, s1.heap.objs.size + 2, s1.heap.objs.size + 3, s1.heap.objs.size, s1.heap.objs.size + 1], _, _, H1, rfl, I1.kept (t' := s1.toks) hk, turn_zip (PySem.W.ktu_apart s1.heap.objs.size a b p1.lt p2.lt), ⟨hz, hTI, ⟨_, _, hTO⟩, h1, h2⟩, iz_fresh I1, q⟩
      · obtain ⟨its, rv, p1, _⟩ := I1.tuple hqx
        obtain ⟨its2, rv2, p2, _⟩ := I1.tuple hqy
        obtain ⟨o1, ho1, _⟩ := id p1
        obtain ⟨o2, ho2, _⟩ := id p2
        refine call_zipT (show s1.heap.IsTuple a its.toArray from p1) (show s1.heap.IsTuple b its2.toArray from p2) fun h' hz hTI hTO h1 h2 hsz hk => wpAny_pyIter_zip hz ?_
        exact ⟨_, [s1.heap.objs.size + 4, s1.heap.objs.size + 2, s1.heap.objs.size + 3, s1.heap.objs.size, s1.heap.objs.size + 1], _, _, H1, rfl, I1.kept (t' := s1.toks) hk, turn_zipT (PySem.W.ktu_apart s1.heap.objs.size a b (Heap.lt_size ho1) (Heap.lt_size ho2)), ⟨hz, hTI, ⟨_, _, hTO⟩, h1, h2⟩, iz_fresh I1, q⟩
      · obtain ⟨its, rv, p1, _⟩ := I1.list hqx
        obtain ⟨its2, rv2, p2, _⟩ := I1.tuple hqy
        obtain ⟨o2, ho2, _⟩ := id p2
        refine call_mx p1.isList (show s1.heap.IsTuple b its2.toArray from p2) fun h' hz hTI hTO h1 h2 hk => wpAny_pyIter_zip hz ?_
        exact ⟨_, [s1.heap.objs.size + 4, s1.heap.objs.size + 2, s1.heap.objs.size + 3, s1.heap.objs.size, s1.heap.objs.size + 1], _, _, H1, rfl, I1.kept (t' := s1.toks) hk, turn_zipM (PySem.W.ktu_apart s1.heap.objs.size a b p1.lt (Heap.lt_size ho2)), ⟨hz, hTI, ⟨_, _, hTO⟩, h1, h2⟩, iz_fresh I1, q⟩
end RZ
set_option Elab.async false
set_option linter.all false
set_option maxRecDepth 100000
/-! # Mp: t[::-1] of tuples and lists. -/
namespace Mp
open PySem PySem.Spec PyProof.Rows L2 HT
section
variable {prog : Program} {w : World} {A : Around} {E : Value → Shared → Prop} {s : Shared}
theorem adjust_rev (n : Nat) : Builtin.Slice.sliceAdjust none none (-1) (n : Int) = ((n : Int) - 1, -1) := by
  unfold Builtin.Slice.sliceAdjust
  simp
theorem places_rev (n : Nat) : Builtin.Slice.slicePlaces ((n : Int) - 1) (-1) (-1) = n := by
  unfold Builtin.Slice.slicePlaces
  have h1 : ¬ ((-1 : Int) > 0) := by omega
  have h2 : (- -1 : Int) = 1 := by omega
  simp only [h1, if_false, h2, Int.ediv_one]
  split <;> omega
theorem sliceApplied_rev {sl : Addr} {vl vu vs : Value} {n : Nat} {Q : Int × Int × Nat → Shared → Prop} (hs : s.heap.IsSliceOf sl vl vu vs) (pl : IsPart vl none) (pu : IsPart vu none) (ps : IsPart vs (some (-1)))
    (h : Q (((n : Nat) : Int) - 1, -1, n) s) : wpAny (model prog w) A (Builtin.Slice.sliceApplied (.ref sl) (pure (n : Int))) Q E s := by
  obtain ⟨os, hos, hcs, hds⟩ := id hs
  unfold Builtin.Slice.sliceApplied Builtin.Slice.sliceFields
  refine wpAny_bind (wpAny_bind (wpAny_field hos hds (x := vl) rfl (wpAny_bind (wpAny_field hos hds (x := vu) rfl (wpAny_bind (wpAny_field hos hds (x := vs) rfl (wpAny_pure ?_)))))))
  refine wpAny_bind (slicePart_ ps ?_)
  show wpAny _ _ (if ((-1 : Int) == 0) = true then _ else _) _ _ s
  rw [if_neg (by decide)]
  refine wpAny_bind (slicePart_ pl (wpAny_bind (slicePart_ pu (wpAny_bind (wpAny_pure ?_)))))
  show wpAny _ _ (match Builtin.Slice.sliceAdjust none none (-1) (n : Int) with | (lo, hi) => pure (lo, (-1 : Int), Builtin.Slice.slicePlaces lo hi (-1))) _ _ s
  rw [adjust_rev n]
  show wpAny _ _ (pure (((n : Nat) : Int) - 1, (-1 : Int), Builtin.Slice.slicePlaces ((n : Int) - 1) (-1) (-1))) _ _ s
  rw [places_rev]
  exact wpAny_pure h
theorem pick_rev (xs : Array Value) : ((List.range xs.size).filterMap fun (k : Nat) => xs[(((xs.size : Nat) : Int) - 1 + (k : Int) * -1).toNat]?).toArray = xs.toList.reverse.toArray := by
  have e : (List.range xs.size).filterMap (fun (k : Nat) => xs[(((xs.size : Nat) : Int) - 1 + (k : Int) * -1).toNat]?) = ((List.range xs.size).map fun k => xs.size - 1 - k).filterMap (xs[·]?) := by
    rw [List.filterMap_map]
    congr 1
    funext k
    have : (((xs.size : Nat) : Int) - 1 + (k : Int) * -1).toNat = xs.size - 1 - k := by omega
    simp only [Function.comp, this]
  rw [e, PySem.W.krv_range, List.filterMap_reverse, PySem.W.krv_all]
theorem getItem_tuple_rev {t sl : Addr} {items : Array Value} {vl vu vs : Value} {Q : Value → Shared → Prop} (ht : IsTup s.heap t items) (hs : s.heap.IsSliceOf sl vl vu vs) (pl : IsPart vl none) (pu : IsPart vu none) (ps : IsPart vs (some (-1)))
    (h : Q (.ref s.heap.objs.size) { s with heap := s.heap.push { cls := .type "tuple", data := .seq items.toList.reverse.toArray } })
    (hsz : items.size ≤ sizeLine) : wpAny (model prog w) A (getItem (.ref t) (.ref sl)) Q E s := by
  have htake : sizeOk (.seq items.toList.reverse.toArray) := by
    show items.toList.reverse.toArray.size ≤ sizeLine
    rw [List.size_toArray, List.length_reverse, Array.length_toList]
    exact hsz
  obtain ⟨os, hos, hcs, hds⟩ := id hs
  have hTs : s.TypeIs (.ref sl) "slice" := ⟨os, hos, hcs⟩
  unfold getItem
  try with_reducible refine wpAny_holding ?_
  first | refine wpAny_bind (wpAny_pure ?_) | skip
  refine wpAny_bind (wpAny_sequenceKey ht.typeIs (by decide) ?_)
  refine wpAny_bind (wpAny_callSpecial?_slot (name := Str.ofString "__getitem__") ht.typeIs PyProof.Rows.slot_tuple_getitem
    (wpAny_call_entry PyProof.Rows.slot_tuple_getitem ht.typeIs entry_tuple_getitem ?_ (args_tuple_getitem _ _)))
  show wpAny _ _ (Builtin.Tuple.tupleItemsOf (.ref t) >>= _) _ _ s
  refine wpAny_bind (tupleItemsOf_ ht ?_)
  refine wpAny_bind (wpAny_typeOf hTs ?_)
  rw [if_pos (by decide)]
  refine wpAny_bind (sliceApplied_rev hs pl pu ps ?_)
  have hno : ¬ (((((items.size : Nat) : Int) - 1) == 0 && (-1 : Int) == 1 && items.size == items.size) = true) := by
    intro q
    rw [Bool.and_eq_true, Bool.and_eq_true] at q
    exact absurd (eq_of_beq q.1.2) (by decide)
  show wpAny _ _ (if ((((items.size : Nat) : Int) - 1) == 0 && (-1 : Int) == 1 && items.size == items.size) = true then _ else _) _ _ s
  rw [if_neg hno, pick_rev]
  first
    | exact wpAny_bind (m := Builtin.Tuple.tupleExact _) (wpAny_newObj_type (wpAny_pure ⟨_, rfl, wpAny_pure h⟩) htake)
    | exact wpAny_bind (m := Builtin.Tuple.tupleExact _) (wpAny_newObj_type (wpAny_bind (wpAny_pure (wpAny_pure ⟨_, rfl, wpAny_pure h⟩))) htake)
    | exact wpAny_bind (wpAny_bind (m := Builtin.Tuple.tupleExact _) (wpAny_newObj_type (wpAny_pure (wpAny_pure ⟨_, rfl, wpAny_pure h⟩)) htake))
    | exact wpAny_bind (wpAny_bind (m := Builtin.Tuple.tupleExact _) (wpAny_newObj_type (wpAny_pure ⟨_, rfl, wpAny_pure h⟩) htake))
end
section
variable {X : Cx}
/-- xs[::-1] of a list or a tuple -/
def tRev (K : PySem.W.Frag) (te : TE) : TE := fun σ H Q => te σ H fun x H1 => (∃ a xs, x = .ref a ∧ SqL K H1 a xs ∧ ∀ p, H1 p = none → Q (.ref p) (upd H1 p (.lst xs.reverse))) ∨
  (∃ a xs, x = .ref a ∧ SqT K H1 a xs ∧ Nt H1 xs.reverse Q)
theorem pe_rev {e : Expr} {te : TE} {k : Nat} {p1 p2 p3 pos : Pos} (he : PE X e te) : PE X (.Subscript e (.Slice none none (some (.UnaryOp .USub (.Constant (.int 1) k p1) p2)) p3) pos) (tRev X.K te) := by
  refine ⟨fun pins s σ H Q I h => ?_⟩
  refine Subscript_ (thn (he.run pins s σ H _ I h) fun v s1 ⟨x, H1, I1, r1, q1⟩ => ?_)
  have hst : PO X (some (.UnaryOp .USub (.Constant (.int 1) k p1) p2)) (tPart (tUn (rU fun i => .int (-i)) (tC (.int 1)))) := po_some (pe_un un_neg pe_int)
  have hxe : ∃ a, x = .ref a := by
    rcases q1 with ⟨a, xs, ex, _⟩ | ⟨a, xs, ex, _⟩
    · exact ⟨a, ex⟩
    · exact ⟨a, ex⟩
  obtain ⟨a, rfl⟩ := hxe
  cases r1
  refine wpAny_Slice (thn (po_none.run pins s1 σ H1 (fun o H2 => o = none ∧ H2 = H1) I1 ⟨rfl, rfl⟩) fun vl s2 ⟨l, H2, I2, pl, el, e2⟩ => ?_)
  subst el e2
  refine thn (po_none.run pins s2 σ H2 (fun o H3 => o = none ∧ H3 = H2) I2 ⟨rfl, rfl⟩) fun vu s3 ⟨u, H3, I3, pu, eu, e3⟩ => ?_
  subst eu e3
  refine thn (hst.run pins s3 σ H3 (fun o H4 => o = some (-1) ∧ H4 = H3) I3 ⟨1, rfl, -1, rfl, rfl, rfl⟩) fun vs s4 ⟨o, H4, I4, ps, eo, e4⟩ => ?_
  subst eo e4
  have I5 : Inv X pins σ H4 { s4 with heap := s4.heap.push { cls := .type "slice", data := .fields #[vl, vu, vs] } } := I4.kept (t' := s4.toks) fun b ob q => Heap.get?_push_of_some _ q
  show wpAny (model X.prog X.w) X.A (subscriptTail e (.Slice none none (some (.UnaryOp .USub (.Constant (.int 1) k p1) p2)) p3) (.ref a) (.ref s4.heap.objs.size)) (EP X pins σ Q) X.xe { s4 with heap := s4.heap.push { cls := .type "slice", data := .fields #[vl, vu, vs] } }
  rcases q1 with ⟨a', xs, ex, hx, q⟩ | ⟨a', xs, ex, hx, q⟩
  · cases ex
    obtain ⟨its, r, ht, hz⟩ := I5.list hx
    have hlen := r.length
    refine tail_any (ops := [.ref a, .ref s4.heap.objs.size]) ht.isList.typeIs (PySem.slot_list_getitem.lookup) ?_ (by with_unfolding_all rfl)
    refine wpAny_getItem_list_slice ht.isList (Heap.IsSliceOf.new _ vl vu vs) pl pu ps (by decide) ?_ (by rw [List.size_toArray]; omega)
    rw [PySem.W.krv_pick]
    refine ⟨.ref _, _, I5.laid (t' := s4.toks) (o := .lst xs.reverse) (fun b ob q => Heap.get?_push_of_some _ q) (Nat.le_refl _) ?_, rfl, q _ (I5.hok.fresh (Nat.le_refl _))⟩
    exact ⟨by rw [List.length_reverse]; exact hz, _, 0, r.reverse, Heap.get?_push_size _ rfl⟩
  · cases ex
    obtain ⟨its, r, ht, hz⟩ := I5.tuple hx
    have hlen : its.toArray.size = xs.length := by rw [List.size_toArray]; exact r.length.symm
    refine tail_any (ops := [.ref a, .ref s4.heap.objs.size]) ht.typeIs (PyProof.Rows.slot_tuple_getitem.lookup) ?_ (by with_unfolding_all rfl)
    refine getItem_tuple_rev ht (Heap.IsSliceOf.new _ vl vu vs) pl pu ps ?_ (by rw [hlen]; exact hz)
    exact nt_push I5 r.reverse (by rw [List.length_reverse]; exact hz) q s4.toks
end
end Mp
set_option Elab.async false
set_option linter.all false
/-! # Mp: what stands in the heap for a value; the state's relation. -/
namespace Mp
open PySem PySem.Spec PyProof.Rows L2

/-- the script: a list that is read only -/
def SqF (K : PySem.W.Frag) (H : Hp) (a : Addr) (xs : List V) : Prop := (∃ o, H a = some (.frz o (.lst xs))) ∨
    ∃ (o : Obj) (its : Array Value) (n : Nat), K.lookup a = some o ∧ o.cls = .type "list" ∧ o.dict = none ∧ o.data = .seq its n ∧ its.size ≤ sizeLine ∧ Vals xs its.toList
theorem SqF.sql {K : PySem.W.Frag} {H : Hp} {a : Addr} {xs : List V} (h : SqF K H a xs) : SqL K H a xs := by
  rcases h with h | h
  · exact .inl (.inr h)
  · exact .inr h
/-! ### values in the heap: the lists within lie where A lets them -/
section
variable (K : PySem.W.Frag) (H : Hp) (A : Addr → Prop)
mutual
def VR : Val → V → Prop
  | .non, v => v = .non
  | .bl b, v => v = .bl b
  | .int i, v => v = .int i
  | .str s, v => v = .str s ∧ PyData.strOk s = true ∧ Nat.ble s.length LIM = true
  | .tup xs, v => ∃ a vs, v = .ref a ∧ TupK K H a vs ∧ VRs xs vs
  | .lst xs, v => ∃ a vs, v = .ref a ∧ H a = some (.lst vs) ∧ A a ∧ VRs xs vs
  | .undef, _ => False
  | .dct _ _, _ => False
  | .opq _ _, _ => False
def VRs : List Val → List V → Prop
  | [], vs => vs = []
  | x :: xs, vs => ∃ v r, vs = v :: r ∧ VR x v ∧ VRs xs r
end
end
theorem VRs.length {K : PySem.W.Frag} {H : Hp} {A : Addr → Prop} : ∀ {xs : List Val} {vs : List V}, VRs K H A xs vs → vs.length = xs.length
  | [], vs, h => by
    have e : vs = [] := h
    subst e; rfl
  | x :: xs, vs, h => by
    obtain ⟨v, r, e, _, t⟩ := h
    subst e
    simp [VRs.length t]
theorem VRs.get {K : PySem.W.Frag} {H : Hp} {A : Addr → Prop} : ∀ {xs : List Val} {vs : List V} {i : Nat} {x : Val}, VRs K H A xs vs → xs[i]? = some x → ∃ v, vs[i]? = some v ∧ VR K H A x v
  | [], _, _, _, _, e => by simp at e
  | y :: ys, _, 0, x, h, e => by
    obtain ⟨v, r, e1, hv, t⟩ := h
    subst e1
    simp at e; subst e
    exact ⟨v, rfl, hv⟩
  | y :: ys, _, i + 1, x, h, e => by
    obtain ⟨v, r, e1, hv, t⟩ := h
    subst e1
    obtain ⟨w, h1, h2⟩ := VRs.get (i := i) (x := x) t (by simpa using e)
    exact ⟨w, by simpa using h1, h2⟩
theorem VRs.append {K : PySem.W.Frag} {H : Hp} {A : Addr → Prop} : ∀ {xs ys : List Val} {vs ws : List V}, VRs K H A xs vs → VRs K H A ys ws → VRs K H A (xs ++ ys) (vs ++ ws)
  | [], ys, vs, ws, h, h' => by
    have e : vs = [] := h
    subst e; exact h'
  | x :: xs, ys, vs, ws, h, h' => by
    obtain ⟨v, r, e, hv, t⟩ := h
    subst e
    exact ⟨v, r ++ ws, rfl, hv, VRs.append t h'⟩
theorem VRs.nil {K : PySem.W.Frag} {H : Hp} {A : Addr → Prop} : VRs K H A [] [] := rfl
theorem VRs.cons {K : PySem.W.Frag} {H : Hp} {A : Addr → Prop} {x : Val} {xs : List Val} {v : V} {vs : List V} (h : VR K H A x v) (t : VRs K H A xs vs) : VRs K H A (x :: xs) (v :: vs) := ⟨v, vs, rfl, h, t⟩
theorem VRs.take {K : PySem.W.Frag} {H : Hp} {A : Addr → Prop} : ∀ {xs : List Val} {vs : List V} (n : Nat), VRs K H A xs vs → VRs K H A (xs.take n) (vs.take n)
  | [], vs, n, h => by
    have e : vs = [] := h
    subst e; simp; rfl
  | x :: xs, vs, 0, h => by simp; rfl
  | x :: xs, vs, n + 1, h => by
    obtain ⟨v, r, e, hv, t⟩ := h
    subst e
    exact ⟨v, r.take n, rfl, hv, VRs.take n t⟩
theorem VRs.drop {K : PySem.W.Frag} {H : Hp} {A : Addr → Prop} : ∀ {xs : List Val} {vs : List V} (n : Nat), VRs K H A xs vs → VRs K H A (xs.drop n) (vs.drop n)
  | [], vs, n, h => by
    have e : vs = [] := h
    subst e; simp; rfl
  | x :: xs, vs, 0, h => h
  | x :: xs, vs, n + 1, h => by
    obtain ⟨v, r, e, hv, t⟩ := h
    subst e
    exact VRs.drop n t
theorem VRs.reverse {K : PySem.W.Frag} {H : Hp} {A : Addr → Prop} : ∀ {xs : List Val} {vs : List V}, VRs K H A xs vs → VRs K H A xs.reverse vs.reverse
  | [], vs, h => by
    have e : vs = [] := h
    subst e; rfl
  | x :: xs, vs, h => by
    obtain ⟨v, r, e, hv, t⟩ := h
    subst e
    simp only [List.reverse_cons]
    exact VRs.append (VRs.reverse t) ⟨v, [], rfl, hv, rfl⟩
theorem VRs.set {K : PySem.W.Frag} {H : Hp} {A : Addr → Prop} : ∀ {xs : List Val} {vs : List V} {x : Val} {v : V} (i : Nat), VRs K H A xs vs → VR K H A x v → VRs K H A (xs.set i x) (vs.set i v)
  | [], vs, x, v, i, h, _ => by
    have e : vs = [] := h
    subst e; rfl
  | y :: ys, vs, x, v, 0, h, hx => by
    obtain ⟨w, r, e, hv, t⟩ := h
    subst e
    exact ⟨v, r, rfl, hx, t⟩
  | y :: ys, vs, x, v, i + 1, h, hx => by
    obtain ⟨w, r, e, hv, t⟩ := h
    subst e
    exact ⟨w, r.set i v, rfl, hv, VRs.set i t hx⟩
theorem VRs.eraseIdx {K : PySem.W.Frag} {H : Hp} {A : Addr → Prop} : ∀ {xs : List Val} {vs : List V} (i : Nat), VRs K H A xs vs → VRs K H A (xs.eraseIdx i) (vs.eraseIdx i)
  | [], vs, i, h => by
    have e : vs = [] := h
    subst e; rfl
  | y :: ys, vs, 0, h => by
    obtain ⟨w, r, e, hv, t⟩ := h
    subst e
    exact t
  | y :: ys, vs, i + 1, h => by
    obtain ⟨w, r, e, hv, t⟩ := h
    subst e
    exact ⟨w, r.eraseIdx i, rfl, hv, VRs.eraseIdx i t⟩
theorem VRs.dropLast {K : PySem.W.Frag} {H : Hp} {A : Addr → Prop} {xs : List Val} {vs : List V} (h : VRs K H A xs vs) : VRs K H A xs.dropLast vs.dropLast := by
  rw [List.dropLast_eq_take, List.dropLast_eq_take, h.length]
  exact h.take _
theorem VRs.reps {K : PySem.W.Frag} {H : Hp} {A : Addr → Prop} {xs : List Val} {vs : List V} (h : VRs K H A xs vs) : ∀ n : Nat, VRs K H A (reps xs n) (List.replicate n vs).flatten
  | 0 => rfl
  | n + 1 => by
    rw [List.replicate_succ, List.flatten_cons]
    exact VRs.append h (VRs.reps h n)

/-! ### from heap to heap -/
/-- all but what Ch lets change (lists) is kept -/
structure Ext (Ch : Addr → Prop) (H H' : Hp) : Prop where
  keep : ∀ a o, H a = some o → ¬ Ch a → H' a = some o
  lst : ∀ a, Ch a → ∃ xs, H a = some (.lst xs)
theorem Ext.refl {Ch : Addr → Prop} {H : Hp} (h : ∀ a, Ch a → ∃ xs, H a = some (.lst xs)) : Ext Ch H H := ⟨fun _ _ h _ => h, h⟩
theorem Ext.tup {Ch : Addr → Prop} {H H' : Hp} (e : Ext Ch H H') {K : PySem.W.Frag} {a : Addr} {vs : List V} (h : TupK K H a vs) : TupK K H' a vs := by
  rcases h with ⟨o, h, d⟩ | h
  · refine .inl ⟨o, e.keep a _ h fun c => ?_, d⟩
    obtain ⟨xs, q⟩ := e.lst a c
    rw [h] at q; cases q
  · exact .inr h
theorem Ext.sqf {Ch : Addr → Prop} {H H' : Hp} (e : Ext Ch H H') {K : PySem.W.Frag} {a : Addr} {vs : List V} (h : SqF K H a vs) : SqF K H' a vs := by
  rcases h with ⟨o, h⟩ | h
  · refine .inl ⟨o, e.keep a _ h fun c => ?_⟩
    obtain ⟨xs, q⟩ := e.lst a c
    rw [h] at q; cases q
  · exact .inr h
theorem h_some {H : Hp} {a : Addr} {u : HO} (h : H a = some u) : H a ≠ none := by simp [h]
mutual
theorem VR.step {K : PySem.W.Frag} {H H' : Hp} {A A' Ch : Addr → Prop} (e : Ext Ch H H') (n : ∀ a, H a ≠ none → A a → ¬ Ch a) (m : ∀ a, H a ≠ none → A a → A' a) : ∀ {x : Val} {v : V}, VR K H A x v → VR K H' A' x v
  | .non, _, h => h
  | .bl _, _, h => h
  | .int _, _, h => h
  | .str _, _, h => h
  | .tup xs, _, h => by
    obtain ⟨a, vs, e1, t, r⟩ := h
    exact ⟨a, vs, e1, e.tup t, VRs.step e n m r⟩
  | .lst xs, _, h => by
    obtain ⟨a, vs, e1, t, ha, r⟩ := h
    exact ⟨a, vs, e1, e.keep a _ t (n a (h_some t) ha), m a (h_some t) ha, VRs.step e n m r⟩
theorem VRs.step {K : PySem.W.Frag} {H H' : Hp} {A A' Ch : Addr → Prop} (e : Ext Ch H H') (n : ∀ a, H a ≠ none → A a → ¬ Ch a) (m : ∀ a, H a ≠ none → A a → A' a) : ∀ {xs : List Val} {vs : List V}, VRs K H A xs vs → VRs K H' A' xs vs
  | [], _, h => h
  | x :: xs, _, h => by
    obtain ⟨v, r, e1, hv, t⟩ := h
    exact ⟨v, r, e1, VR.step e n m hv, VRs.step e n m t⟩
end
theorem VR.mono {K : PySem.W.Frag} {H : Hp} {A A' : Addr → Prop} (m : ∀ a, H a ≠ none → A a → A' a) {x : Val} {v : V} (h : VR K H A x v) : VR K H A' x v :=
  VR.step (Ch := fun _ => False) (Ext.refl fun _ z => z.elim) (fun _ _ _ z => z) m h
theorem VRs.mono {K : PySem.W.Frag} {H : Hp} {A A' : Addr → Prop} (m : ∀ a, H a ≠ none → A a → A' a) {xs : List Val} {vs : List V} (h : VRs K H A xs vs) : VRs K H A' xs vs :=
  VRs.step (Ch := fun _ => False) (Ext.refl fun _ z => z.elim) (fun _ _ _ z => z) m h

/-! ### owned lists: d deep -/
def Sp3 (P : Val → V → List Addr → Prop) : List Val → List V → List Addr → Prop
  | [], vs, O => vs = [] ∧ O = []
  | x :: xs, vs, O => ∃ v r O1 O2, vs = v :: r ∧ O = O1 ++ O2 ∧ P x v O1 ∧ Sp3 P xs r O2
def OR (K : PySem.W.Frag) (H : Hp) (A : Addr → Prop) : Nat → Val → V → List Addr → Prop
  | 0, x, v, O => VR K H A x v ∧ O = []
  | d + 1, x, v, O => (∃ xs a vs O', x = .lst xs ∧ v = .ref a ∧ H a = some (.lst vs) ∧ O = a :: O' ∧ Sp3 (OR K H A d) xs vs O') ∨ ((∀ xs, x ≠ .lst xs) ∧ VR K H A x v ∧ O = [])
theorem Sp3.imp {P P' : Val → V → List Addr → Prop} (h : ∀ x v O, P x v O → P' x v O) : ∀ {xs : List Val} {vs : List V} {O : List Addr}, Sp3 P xs vs O → Sp3 P' xs vs O
  | [], _, _, q => q
  | x :: xs, _, _, ⟨v, r, O1, O2, e1, e2, p, t⟩ => ⟨v, r, O1, O2, e1, e2, h _ _ _ p, Sp3.imp h t⟩
theorem Sp3.impM {P P' : Val → V → List Addr → Prop} : ∀ {xs : List Val} {vs : List V} {O : List Addr}, (∀ x v O1, (∀ a ∈ O1, a ∈ O) → P x v O1 → P' x v O1) → Sp3 P xs vs O → Sp3 P' xs vs O
  | [], _, _, _, q => q
  | x :: xs, _, _, h, ⟨v, r, O1, O2, e1, e2, p, t⟩ => ⟨v, r, O1, O2, e1, e2, h _ _ _ (fun a z => by rw [e2]; exact List.mem_append_left _ z) p, Sp3.impM (fun x v O1' z => h x v O1' (fun a y => by rw [e2]; exact List.mem_append_right _ (z a y))) t⟩
theorem Sp3.length {P : Val → V → List Addr → Prop} : ∀ {xs : List Val} {vs : List V} {O : List Addr}, Sp3 P xs vs O → vs.length = xs.length
  | [], _, _, ⟨e, _⟩ => by rw [e]; rfl
  | x :: xs, _, _, ⟨v, r, O1, O2, e1, e2, p, t⟩ => by rw [e1]; simp [Sp3.length t]
/-- nothing owned among the items -/
theorem Sp3.of0 {K : PySem.W.Frag} {H : Hp} {A : Addr → Prop} : ∀ {xs : List Val} {vs : List V} {O : List Addr}, Sp3 (OR K H A 0) xs vs O → VRs K H A xs vs ∧ O = []
  | [], _, _, ⟨e, z⟩ => ⟨e, z⟩
  | x :: xs, _, _, ⟨v, r, O1, O2, e1, e2, p, t⟩ => by
    obtain ⟨t1, t2⟩ := Sp3.of0 t
    obtain ⟨p1, p2⟩ := p
    exact ⟨⟨v, r, e1, p1, t1⟩, by rw [e2, p2, t2]; rfl⟩
theorem Sp3.to0 {K : PySem.W.Frag} {H : Hp} {A : Addr → Prop} : ∀ {xs : List Val} {vs : List V}, VRs K H A xs vs → Sp3 (OR K H A 0) xs vs []
  | [], _, h => ⟨h, rfl⟩
  | x :: xs, _, ⟨v, r, e, hv, t⟩ => ⟨v, r, [], [], e, rfl, ⟨hv, rfl⟩, Sp3.to0 t⟩
/-- the heap goes on: what is owned stays as it is -/
theorem OR.step {K : PySem.W.Frag} {H H' : Hp} {A A' Ch : Addr → Prop} (e : Ext Ch H H') (n : ∀ a, H a ≠ none → A a → ¬ Ch a) (m : ∀ a, H a ≠ none → A a → A' a) : ∀ {d : Nat} {x : Val} {v : V} {O : List Addr}, (∀ a ∈ O, ¬ Ch a) → OR K H A d x v O → OR K H' A' d x v O
  | 0, x, v, O, _, ⟨h, z⟩ => ⟨h.step e n m, z⟩
  | d + 1, x, v, O, c, .inl ⟨xs, a, vs, O', e1, e2, e3, e4, t⟩ => by
    refine .inl ⟨xs, a, vs, O', e1, e2, e.keep a _ e3 (c a (by rw [e4]; exact List.mem_cons_self)), e4, ?_⟩
    exact Sp3.impM (fun x v O1 sub p => OR.step e n m (fun b hb => c b (by rw [e4]; exact List.mem_cons_of_mem _ (sub b hb))) p) t
  | d + 1, x, v, O, c, .inr ⟨nl, h, z⟩ => .inr ⟨nl, h.step e n m, z⟩
theorem OR.mono {K : PySem.W.Frag} {H : Hp} {A A' : Addr → Prop} (m : ∀ a, H a ≠ none → A a → A' a) {d : Nat} {x : Val} {v : V} {O : List Addr} (h : OR K H A d x v O) : OR K H A' d x v O :=
  OR.step (Ch := fun _ => False) (Ext.refl fun _ z => z.elim) (fun _ _ _ z => z) m (fun _ _ z => z) h
mutual
/-- what is owned is there -/
theorem OR.there {K : PySem.W.Frag} {H : Hp} {A : Addr → Prop} : ∀ {d : Nat} {x : Val} {v : V} {O : List Addr}, OR K H A d x v O → ∀ a ∈ O, ∃ xs, H a = some (.lst xs)
  | 0, x, v, O, ⟨h, z⟩, a, ha => by rw [z] at ha; cases ha
  | d + 1, x, v, O, .inl ⟨xs, b, vs, O', e1, e2, e3, e4, t⟩, a, ha => by
    rw [e4] at ha
    rcases List.mem_cons.mp ha with z | z
    · exact ⟨vs, by rw [z]; exact e3⟩
    · exact Sp3.there t a z
  | d + 1, x, v, O, .inr ⟨nl, h, z⟩, a, ha => by rw [z] at ha; cases ha
theorem Sp3.there {K : PySem.W.Frag} {H : Hp} {A : Addr → Prop} : ∀ {d : Nat} {xs : List Val} {vs : List V} {O : List Addr}, Sp3 (OR K H A d) xs vs O → ∀ a ∈ O, ∃ xs, H a = some (.lst xs)
  | d, [], _, O, ⟨_, z⟩, a, ha => by rw [z] at ha; cases ha
  | d, x :: xs, _, O, ⟨v, r, O1, O2, e1, e2, p, t⟩, a, ha => by
    rw [e2] at ha
    rcases List.mem_append.mp ha with z | z
    · exact OR.there p a z
    · exact Sp3.there t a z
end
/-- owned lists given up: they lie where the others may lie -/
theorem Sp3.vrs {K : PySem.W.Frag} {H : Hp} {A : Addr → Prop} {P : Val → V → List Addr → Prop} : ∀ {xs : List Val} {vs : List V} {O : List Addr}, (∀ x v O1, (∀ a ∈ O1, a ∈ O) → P x v O1 → VR K H A x v) → Sp3 P xs vs O → VRs K H A xs vs
  | [], _, _, _, ⟨e, _⟩ => e
  | x :: xs, _, _, h, ⟨v, r, O1, O2, e1, e2, p, t⟩ => ⟨v, r, e1, h _ _ _ (fun a z => by rw [e2]; exact List.mem_append_left _ z) p, Sp3.vrs (fun x v O1' z => h x v O1' (fun a y => by rw [e2]; exact List.mem_append_right _ (z a y))) t⟩
theorem OR.free {K : PySem.W.Frag} {H : Hp} {A A' : Addr → Prop} (m : ∀ a, H a ≠ none → A a → A' a) : ∀ {d : Nat} {x : Val} {v : V} {O : List Addr}, (∀ a ∈ O, A' a) → OR K H A d x v O → VR K H A' x v
  | 0, x, v, O, _, ⟨h, _⟩ => h.mono m
  | d + 1, x, v, O, c, .inl ⟨xs, a, vs, O', e1, e2, e3, e4, t⟩ => by
    subst e1
    refine ⟨a, vs, e2, e3, c a (by rw [e4]; exact List.mem_cons_self), ?_⟩
    exact Sp3.vrs (fun x v O1 sub p => OR.free m (fun b hb => c b (by rw [e4]; exact List.mem_cons_of_mem _ (sub b hb))) p) t
  | d + 1, x, v, O, c, .inr ⟨nl, h, z⟩ => h.mono m
/-- one layer less is owned -/
theorem OR.less {K : PySem.W.Frag} {H : Hp} {A A' : Addr → Prop} (m : ∀ a, H a ≠ none → A a → A' a) {d : Nat} {x : Val} {v : V} {O : List Addr} (c : ∀ a ∈ O, A' a) (h : OR K H A d x v O) : OR K H A' 0 x v [] := ⟨h.free m c, rfl⟩
theorem OR.undef {K : PySem.W.Frag} {H : Hp} {A : Addr → Prop} : ∀ {d : Nat} {x : Val} {v : V} {O : List Addr}, OR K H A d x v O → x ≠ .undef
  | 0, x, v, O, ⟨h, _⟩ => fun z => by subst z; exact h
  | d + 1, x, v, O, .inl ⟨xs, a, vs, O', e1, _⟩ => fun z => by subst z; cases e1
  | d + 1, x, v, O, .inr ⟨_, h, _⟩ => fun z => by subst z; exact h
/-- the script -/
def Scr (K : PySem.W.Frag) (H : Hp) (x : Val) (v : V) : Prop := ∃ (a : Addr) (ns : List Int), x = .opq 0 (ns.map .int) ∧ v = .ref a ∧ SqF K H a (ns.map V.int)
theorem Scr.step {K : PySem.W.Frag} {H H' : Hp} {Ch : Addr → Prop} {x : Val} {v : V} (e : Ext Ch H H') (h : Scr K H x v) : Scr K H' x v := by
  obtain ⟨a, ns, e1, e2, q⟩ := h
  exact ⟨a, ns, e1, e2, e.sqf q⟩
theorem Scr.undef {K : PySem.W.Frag} {H : Hp} {x : Val} {v : V} (h : Scr K H x v) : x ≠ .undef := by
  obtain ⟨a, ns, e1, _⟩ := h
  subst e1
  intro z; cases z

/-- what a slot holds: kind 3 the script, else owned so deep -/
def SO (K : PySem.W.Frag) (H : Hp) (A : Addr → Prop) (d : Nat) (x : Val) (v : V) (O : List Addr) : Prop := (d = 3 ∧ Scr K H x v ∧ O = []) ∨ (d ≠ 3 ∧ OR K H A d x v O)
theorem SO.there {K : PySem.W.Frag} {H : Hp} {A : Addr → Prop} {d : Nat} {x : Val} {v : V} {O : List Addr} (h : SO K H A d x v O) : ∀ a ∈ O, ∃ xs, H a = some (.lst xs) := fun a ha => by
  rcases h with ⟨_, _, e⟩ | ⟨_, h⟩
  · rw [e] at ha; cases ha
  · exact h.there a ha
theorem SO.step {K : PySem.W.Frag} {H H' : Hp} {A A' Ch : Addr → Prop} (e : Ext Ch H H') (n : ∀ a, H a ≠ none → A a → ¬ Ch a) (m : ∀ a, H a ≠ none → A a → A' a) {d : Nat} {x : Val} {v : V} {O : List Addr} (c : ∀ a ∈ O, ¬ Ch a) (h : SO K H A d x v O) : SO K H' A' d x v O := by
  rcases h with ⟨e1, h, e2⟩ | ⟨e1, h⟩
  · exact .inl ⟨e1, h.step e, e2⟩
  · exact .inr ⟨e1, h.step e n m c⟩
theorem SO.mono {K : PySem.W.Frag} {H : Hp} {A A' : Addr → Prop} (m : ∀ a, H a ≠ none → A a → A' a) {d : Nat} {x : Val} {v : V} {O : List Addr} (h : SO K H A d x v O) : SO K H A' d x v O :=
  SO.step (Ch := fun _ => False) (Ext.refl fun _ z => z.elim) (fun _ _ _ z => z) m (fun _ _ z => z) h

/-! ### the state -/
abbrev Own := Nat → List Addr
/-- where lists may lie that nobody here owns -/
def AA (G : Addr → Prop) (O : Own) : Addr → Prop := fun a => G a ∧ ∀ i, a ∉ O i
def kd (ks : List Nat) (i : Nat) : Nat := ks.getD i 0
structure Stt (K : PySem.W.Frag) (H : Hp) (G : Addr → Prop) (ks : List Nat) (env : Env) (σ : L2.St) (O : Own) : Prop where
  slot : ∀ i, gt env i ≠ .undef → ∃ v, σ[i]? = some (some v) ∧ SO K H (AA G O) (kd ks i) (gt env i) v (O i)
  emp : ∀ i, gt env i = .undef → O i = []
  nd : ∀ i, (O i).Nodup
  dj : ∀ i j a, a ∈ O i → a ∈ O j → i = j
  own : ∀ i a, a ∈ O i → G a
  fresh : ∀ a, H a = none → G a
  len : env.length ≤ σ.length
theorem Stt.there {K : PySem.W.Frag} {H : Hp} {G : Addr → Prop} {ks : List Nat} {env : Env} {σ : L2.St} {O : Own} (S : Stt K H G ks env σ O) {i : Nat} {a : Addr} (h : a ∈ O i) : ∃ xs, H a = some (.lst xs) := by
  by_cases z : gt env i = .undef
  · rw [S.emp i z] at h; cases h
  · obtain ⟨v, _, q⟩ := S.slot i z
    exact q.there a h
theorem Stt.out {K : PySem.W.Frag} {H : Hp} {G : Addr → Prop} {ks : List Nat} {env : Env} {σ : L2.St} {O : Own} (S : Stt K H G ks env σ O) {a : Addr} (h : H a = none) (i : Nat) : a ∉ O i := fun z => by
  obtain ⟨xs, q⟩ := S.there z
  rw [h] at q; cases q
/-- behind an expression: M the slots whose lists it may change -/
structure Pst (K : PySem.W.Frag) (H : Hp) (G : Addr → Prop) (ks : List Nat) (O : Own) (M : List Nat) (env' : Env) (σ : L2.St) (H' : Hp) (O' : Own) : Prop where
  ext : ∀ a o, H a = some o → (∀ i, i ∈ M → a ∉ O i) → H' a = some o
  dom : ∀ a, H' a = none → H a = none
  own : ∀ i, i ∉ M → O' i = O i
  new : ∀ i a, a ∈ O' i → a ∈ O i ∨ H a = none
  st : Stt K H' G ks env' σ O'
section
variable {K : PySem.W.Frag} {H H1 H2 H' : Hp} {G G' : Addr → Prop} {ks ks' : List Nat} {env env1 env2 : Env} {σ σ' : L2.St} {O O1 O2 : Own} {M M1 M2 : List Nat}
theorem Pst.refl (S : Stt K H G ks env σ O) : Pst K H G ks O M env σ H O := ⟨fun _ _ h _ => h, fun _ h => h, fun _ _ => rfl, fun _ _ h => .inl h, S⟩
theorem Pst.mono (p : Pst K H G ks O M env1 σ H1 O1) (h : ∀ i, i ∈ M → i ∈ M1) : Pst K H G ks O M1 env1 σ H1 O1 :=
  ⟨fun a o e n => p.ext a o e fun i hi => n i (h i hi), p.dom, fun i n => p.own i fun z => n (h i z), p.new, p.st⟩
theorem Pst.trans (p : Pst K H G ks O M env1 σ H1 O1) (q : Pst K H1 G ks' O1 M env2 σ' H2 O2) : Pst K H G ks' O M env2 σ' H2 O2 where
  ext := fun a o e n => q.ext a o (p.ext a o e n) fun i hi z => by
    rcases p.new i a z with z | z
    · exact n i hi z
    · rw [e] at z; cases z
  dom := fun a h => p.dom a (q.dom a h)
  own := fun i n => (q.own i n).trans (p.own i n)
  new := fun i a h => by
    rcases q.new i a h with z | z
    · exact p.new i a z
    · exact .inr (p.dom a z)
  st := q.st
theorem Pst.toExt (S : Stt K H G ks env σ O) (p : Pst K H G ks' O M env1 σ' H1 O1) : Ext (fun a => ∃ i, i ∈ M ∧ a ∈ O i) H H1 :=
  ⟨fun a o e n => p.ext a o e fun i hi z => n ⟨i, hi, z⟩, fun a ⟨i, _, z⟩ => S.there z⟩
/-- what lies among the shared lists stays -/
theorem Pst.vr (S : Stt K H G ks env σ O) (p : Pst K H G ks' O M env1 σ' H1 O1) {x : Val} {v : V} (h : VR K H (AA G O) x v) : VR K H1 (AA G O1) x v :=
  h.step (p.toExt S) (fun a _ ha ⟨i, _, z⟩ => ha.2 i z) fun a n ha => ⟨ha.1, fun i z => by
    rcases p.new i a z with z | z
    · exact ha.2 i z
    · exact n z⟩
theorem Pst.vrs (S : Stt K H G ks env σ O) (p : Pst K H G ks' O M env1 σ' H1 O1) {xs : List Val} {vs : List V} (h : VRs K H (AA G O) xs vs) : VRs K H1 (AA G O1) xs vs :=
  h.step (p.toExt S) (fun a _ ha ⟨i, _, z⟩ => ha.2 i z) fun a n ha => ⟨ha.1, fun i z => by
    rcases p.new i a z with z | z
    · exact ha.2 i z
    · exact n z⟩
/-- what is owned by a slot that is not changed stays -/
theorem Pst.orr (S : Stt K H G ks env σ O) (p : Pst K H G ks' O M env1 σ' H1 O1) {d : Nat} {x : Val} {v : V} {Or : List Addr} {r : Nat} (hr : r ∉ M ∨ Or = []) (ho : ∀ a ∈ Or, a ∈ O r) (h : SO K H (AA G O) d x v Or) : SO K H1 (AA G O1) d x v Or :=
  h.step (p.toExt S) (fun a _ ha ⟨i, _, z⟩ => ha.2 i z) (fun a n ha => ⟨ha.1, fun i z => by
    rcases p.new i a z with z | z
    · exact ha.2 i z
    · exact n z⟩) fun a ha ⟨i, hi, z⟩ => by
    rcases hr with hr | hr
    · have e := S.dj i r a z (ho a ha)
      subst e
      exact hr hi
    · rw [hr] at ha; cases ha
/-- a new object laid -/
theorem Stt.laid {a : Addr} {o : HO} (S : Stt K H G ks env σ O) (h : H a = none) : Stt K (upd H a o) G ks env σ O where
  slot := fun i z => by
    have ex : Ext (fun _ => False) H (upd H a o) := ⟨fun b u e _ => by rw [upd_ne (ne_of_none e h)]; exact e, fun _ z => z.elim⟩
    obtain ⟨v, e, q⟩ := S.slot i z
    exact ⟨v, e, q.step ex (fun _ _ _ z => z) (fun _ _ x => x) fun _ _ z => z⟩
  emp := S.emp
  nd := S.nd
  dj := S.dj
  own := S.own
  fresh := fun b z => S.fresh b (by
    by_cases e : b = a
    · subst e; exact h
    · rw [upd_ne e] at z; exact z)
  len := S.len
/-- lists may lie at more places -/
theorem Stt.mono (S : Stt K H G ks env σ O) (h : ∀ a, G a → G' a) : Stt K H G' ks env σ O :=
  ⟨fun i z => let ⟨v, e, q⟩ := S.slot i z; ⟨v, e, q.mono fun a _ ha => ⟨h a ha.1, ha.2⟩⟩, S.emp, S.nd, S.dj, fun i a ha => h a (S.own i a ha), fun a ha => h a (S.fresh a ha), S.len⟩
theorem Pst.laid {a : Addr} {o : HO} (S : Stt K H G ks env σ O) (h : H a = none) : Pst K H G ks O M env σ (upd H a o) O :=
  ⟨fun b u e _ => by rw [upd_ne (ne_of_none e h)]; exact e, fun b z => by
    by_cases e : b = a
    · subst e; exact h
    · rw [upd_ne e] at z; exact z, fun _ _ => rfl, fun _ _ h => .inl h, S.laid h⟩
theorem AA.fresh (S : Stt K H G ks env σ O) {a : Addr} (h : H a = none) : AA G O a := ⟨S.fresh a h, S.out h⟩
end
/-! ### new lists, so deep -/
/-- where no lists of B lie -/
def GX (G : Addr → Prop) (B : List Addr) : Addr → Prop := fun a => G a ∧ a ∉ B
/-- Ow: what the value's lists are; the slots do not lead to them -/
def NewV (K : PySem.W.Frag) (H0 H : Hp) (G : Addr → Prop) (ks : List Nat) (env : Env) (σ : L2.St) (O : Own) (d : Nat) (x : Val) (v : V) : Prop :=
  ∃ Ow, OR K H (AA (GX G Ow) O) d x v Ow ∧ Ow.Nodup ∧ (∀ a, a ∈ Ow → H0 a = none ∧ G a ∧ ∀ i, a ∉ O i) ∧ Stt K H (GX G Ow) ks env σ O
section
variable {K : PySem.W.Frag} {H0 H1 H : Hp} {G : Addr → Prop} {ks : List Nat} {env : Env} {σ : L2.St} {O : Own} {d : Nat} {x : Val} {v : V}
theorem NewV.back (h : ∀ a, H1 a = none → H0 a = none) (n : NewV K H1 H G ks env σ O d x v) : NewV K H0 H G ks env σ O d x v := by
  obtain ⟨Ow, h1, h2, h3, h4⟩ := n
  exact ⟨Ow, h1, h2, fun a ha => ⟨h a (h3 a ha).1, (h3 a ha).2⟩, h4⟩
theorem NewV.vr (n : NewV K H0 H G ks env σ O d x v) : VR K H (AA G O) x v := by
  obtain ⟨Ow, h1, h2, h3, _⟩ := n
  exact h1.free (fun a _ h => ⟨h.1.1, h.2⟩) fun a ha => ⟨(h3 a ha).2.1, (h3 a ha).2.2⟩
theorem Stt.nil (S : Stt K H G ks env σ O) : Stt K H (GX G []) ks env σ O := S.mono fun a h => ⟨h, by simp⟩
theorem NewV.of0 (S : Stt K H G ks env σ O) (h : VR K H (AA G O) x v) : NewV K H0 H G ks env σ O 0 x v := ⟨[], ⟨h.mono fun a _ q => ⟨⟨q.1, by simp⟩, q.2⟩, rfl⟩, .nil, fun _ z => (nomatch z), S.nil⟩
theorem NewV.flat (S : Stt K H G ks env σ O) (nl : ∀ xs, x ≠ .lst xs) (h : VR K H (AA G O) x v) : NewV K H0 H G ks env σ O d x v := by
  cases d with
  | zero => exact NewV.of0 S h
  | succ d => exact ⟨[], .inr ⟨nl, h.mono fun a _ q => ⟨⟨q.1, by simp⟩, q.2⟩, rfl⟩, .nil, fun _ z => (nomatch z), S.nil⟩
/-- a new object laid: the slots do not lead to it -/
theorem Stt.laidX {a : Addr} {o : HO} (S : Stt K H G ks env σ O) (h : H a = none) : Stt K (upd H a o) (GX G [a]) ks env σ O where
  slot := fun i z => by
    have ex : Ext (fun _ => False) H (upd H a o) := ⟨fun b u e _ => by rw [upd_ne (ne_of_none e h)]; exact e, fun _ z => z.elim⟩
    obtain ⟨v, e, q⟩ := S.slot i z
    exact ⟨v, e, q.step ex (fun _ _ _ z => z) (fun b hb x => ⟨⟨x.1, fun e => hb (by rw [List.mem_singleton.mp e]; exact h)⟩, x.2⟩) fun _ _ z => z⟩
  emp := S.emp
  nd := S.nd
  dj := S.dj
  own := fun i b hb => ⟨S.own i b hb, fun e => by
    have e' : b = a := by simpa using e
    subst e'
    exact S.out h i hb⟩
  fresh := fun b z => by
    by_cases e : b = a
    · subst e
      rw [upd_same] at z
      cases z
    · rw [upd_ne e] at z
      exact ⟨S.fresh b z, by simpa using e⟩
  len := S.len
/-- a list just laid -/
theorem NewV.lst {xs : List Val} {a : Addr} {vs : List V} (S : Stt K H G ks env σ O) (h0 : H a = none) (hv : VRs K H (AA G O) xs vs) : NewV K H (upd H a (.lst vs)) G ks env σ O 1 (.lst xs) (.ref a) :=
  ⟨[a], .inl ⟨xs, a, vs, [], rfl, rfl, upd_same, rfl, Sp3.to0 (hv.step (Ch := fun _ => False) ⟨fun b u e _ => by rw [upd_ne (ne_of_none e h0)]; exact e, fun _ z => z.elim⟩ (fun _ _ _ z => z) fun b n q => ⟨⟨q.1, fun e => n (by rw [List.mem_singleton.mp e]; exact h0)⟩, q.2⟩)⟩, by simp, fun b hb => by
    have e : b = a := by simpa using hb
    subst e
    exact ⟨h0, S.fresh b h0, S.out h0⟩, S.laidX h0⟩
end
end Mp
set_option Elab.async false
set_option linter.all false
/-! # Mp: which Python text a syntax stands for; where lists may be changed. -/
noncomputable section
namespace Mp
open PySem PySem.Spec PyProof.Rows L2

/-- a program's table: its defs, constants, built-ins -/
structure Tab where
  P : List Fn
  consts : List (Str × Val)
  blts : List Str
/-- where one stands: the scope, the names that may be stored -/
structure Sx where
  sc : Scope
  fn : Str → Bool

def okName (x : Str) : Bool := !(x == ("__debug__" : Str)) && !(x == ("__classdict__" : Str)) && !(x == ("__name__" : Str))
def isGl (s : Sx) (x : Str) : Bool := match s.sc.names.lookup x with
  | some .globalImplicit => okName x
  | _ => false
def isVis (s : Sx) (x : Str) : Bool := match s.sc.names.lookup x with
  | some .local => okName x
  | some .cell => okName x
  | some .free => okName x
  | _ => false
def isLoc (s : Sx) (x : Str) : Bool := match s.sc.names.lookup x with
  | some .local => okName x
  | some .cell => okName x && s.fn x
  | _ => false
def isPlainLoc (s : Sx) (x : Str) : Bool := match s.sc.names.lookup x with
  | some .local => okName x
  | _ => false
def nameAt (N : List Str) (i : Nat) (x : Str) : Bool := match N[i]? with
  | some y => y == x
  | none => false
def opOf : Bop → Operator
  | .add => .Add
  | .sub => .Sub
  | .mul => .Mult
  | .fdiv => .FloorDiv
  | .mod => .Mod
  | .pow => .Pow
  | .band => .BitAnd
  | .bor => .BitOr
  | .bxor => .BitXor
  | .shl => .LShift
  | .shr => .RShift
def copOf : Cop → CmpOp
  | .eq => .Eq
  | .ne => .NotEq
  | .lt => .Lt
  | .le => .LtE
  | .gt => .Gt
  | .ge => .GtE
  | .isin => .In
  | .notin => .NotIn
  | .is => .Is
  | .isnot => .IsNot
def biName : Bi → Str
  | .len => "len"
  | .tuple => "tuple"
  | .list => "list"
  | .sorted => "sorted"
  | .sum => "sum"
  | .min => "min"
  | .max => "max"
  | .abs => "abs"
  | .int => "int"
  | .all => "all"
  | .any => "any"
  | .str => "str"
  | .isinst _ => "isinstance"
  | .rg t => cond t "tuple" "list"
  | .st t => cond t "len" "sorted"
def tyName : Ty → Str
  | .int => "int"
  | .bool => "bool"
  | .str => "str"
  | .tuple => "tuple"
  | .list => "list"
def meName : Me → Str
  | .index => "index"
  | .count => "count"
def srcName : Src → Str
  | .range => "range"
  | .enum => "enumerate"
  | .zip => "zip"
  | .rev => "reversed"
  | _ => ""
/-- no star, no set display, no comprehension (what hangs on a form alone) -/
def noStar : Expr → Bool
  | .Starred _ _ => false
  | _ => true
def noSet : Expr → Bool
  | .Set _ _ _ => false
  | _ => true
def noComp : Expr → Bool
  | .ListComp _ _ _ _ => false
  | .SetComp _ _ _ _ => false
  | .DictComp _ _ _ _ _ => false
  | _ => true
def noSlice : Expr → Bool
  | .Slice _ _ _ _ => false
  | _ => true
/-- a method's receiver: no super() -/
def noCall : Expr → Bool
  | .Call _ _ _ _ => false
  | _ => true
def blt (T : Tab) (s : Sx) (x : Str) : Bool := isGl s x && T.blts.contains x
def ownOf (N : List Str) (t : Tgt) : List (Str × Nat) := t.slots.map fun i => (N.getD i "", i)
def chkTs (N : List Str) (s : Sx) : List Expr → List Nat → Bool
  | [], [] => true
  | .Name x _ :: es, i :: is => nameAt N i x && isLoc s x && chkTs N s es is
  | _, _ => false
def chkT (N : List Str) (s : Sx) : Expr → Tgt → Bool
  | .Name x _, .one i => nameAt N i x && isLoc s x
  | .Tuple es _ _, .tup is => chkTs N s es is
  | _, _ => false
def cstIs (T : Tab) (x : Str) (v : Val) : Bool := match T.consts.lookup x with
  | some w => same w v
  | none => false
def fnIs (T : Tab) (f : Nat) (x : Str) (n : Nat) : Bool := match fnAt T.P f with
  | some fn => fn.name == x && fn.np == n
  | none => false
def isIo : E → Bool
  | .io _ => true
  | _ => false
/-- io arguments stand where the parameters are handed back -/
def ioOk : List Nat → List E → List Nat → Bool
  | [], [], [] => true
  | 0 :: ks, e :: es, js => !isIo e && ioOk ks es js
  | (_ + 1) :: ks, .io i :: es, j :: js => (i == j) && ioOk ks es js
  | _, _, _ => false
def fnKd (T : Tab) (f : Nat) : List Nat := match fnAt T.P f with
  | some fn => fn.kd
  | none => []
def fnFr (T : Tab) (f : Nat) : Nat := match fnAt T.P f with
  | some fn => fn.fr
  | none => 0

def optL : Option Expr → List Expr
  | none => []
  | some e => [e]
/-- what is walked -/
def chkI (T : Tab) (k : Src) (cl : List Expr → Bool) (s : Sx) (tg iter : Expr) : Bool := match k with
  | .plain => cl [iter]
  | k => (match iter with
    | .Call (.Name x _) xs [] _ => (x == srcName k) && blt T s x && cl xs && Nat.ble 1 xs.length && Nat.ble xs.length 3 && (match k, tg with
      | .enum, .Tuple _ _ _ => Nat.beq xs.length 1
      | .zip, .Tuple _ _ _ => Nat.beq xs.length 2
      | .range, _ => true
      | .rev, _ => Nat.beq xs.length 1
      | _, _ => false)
    | _ => false)
section
variable (T : Tab) (N : List Str)
mutual
def chkE : E → Sx → Expr → Bool
  | .int i, _, e => match e with
    | .Constant (.int j) _ _ => i == j
    | _ => false
  | .str x, _, e => match e with
    | .Constant (.str y) _ _ => x == y && PyData.strOk x && Nat.ble x.length LIM
    | _ => false
  | .bl b, _, e => match e with
    | .Constant (.bool c) _ _ => b == c
    | _ => false
  | .non, _, e => match e with
    | .Constant .none _ _ => true
    | _ => false
  | .cst x v, s, e => match e with
    | .Name y _ => x == y && isGl s x && cstIs T x v
    | _ => false
  | .var i, s, e => match e with
    | .Name x _ => nameAt N i x && isVis s x
    | _ => false
  | .io i, s, e => match e with
    | .Name x _ => nameAt N i x && isVis s x
    | _ => false
  | .tup es, s, e => match e with
    | .Tuple xs _ _ => chkL es s xs && Nat.ble xs.length 1000
    | _ => false
  | .lst es, s, e => match e with
    | .List xs _ => chkL es s xs && Nat.ble xs.length 1000
    | _ => false
  | .bin o a b, s, e => match e with
    | .BinOp x op y _ => (op == opOf o) && chkE a s x && chkE b s y
    | _ => false
  | .neg a, s, e => match e with
    | .UnaryOp .USub x _ => chkE a s x
    | _ => false
  | .cmp o a b, s, e => match e with
    | .Compare x [op] [y] _ => (op == copOf o) && noSet y && chkE a s x && chkE b s y
    | _ => false
  | .cmp2 o o2 a b c, s, e => match e with
    | .Compare x [op, op2] [y, z] _ => (op == copOf o) && (op2 == copOf o2) && noSet y && noSet z && chkE a s x && chkE b s y && chkE c s z
    | _ => false
  | .and a b, s, e => match e with
    | .BoolOp .And [x, y] _ => chkE a s x && chkE b s y
    | .BoolOp .And (x :: y :: z :: r) p => chkE a s x && chkE b s (.BoolOp .And (y :: z :: r) p)
    | _ => false
  | .or a b, s, e => match e with
    | .BoolOp .Or [x, y] _ => chkE a s x && chkE b s y
    | .BoolOp .Or (x :: y :: z :: r) p => chkE a s x && chkE b s (.BoolOp .Or (y :: z :: r) p)
    | _ => false
  | .not a, s, e => match e with
    | .UnaryOp .Not x _ => chkE a s x
    | _ => false
  | .ite c a b, s, e => match e with
    | .IfExp x y z _ => chkE c s x && chkE a s y && chkE b s z
    | _ => false
  | .idx a b, s, e => match e with
    | .Subscript x y _ => noSlice y && chkE a s x && chkE b s y
    | _ => false
  | .slc a lo hi, s, e => match e with
    | .Subscript x (.Slice l h none _) _ => chkE a s x && chkL lo s (optL l) && chkL hi s (optL h)
    | _ => false
  | .rv a, s, e => match e with
    | .Subscript x (.Slice none none (some (.UnaryOp .USub (.Constant (.int 1) _ _) _)) _) _ => chkE a s x
    | _ => false
  | .call f args js brw, s, e => match e with
    | .Call (.Name x _) xs [] _ => isGl s x && fnIs T f x args.length && ioOk (fnKd T f) args js && chkL args s xs
    | _ => false
  | .bi b args, s, e => match b with
    | .isinst t => (match e with
      | .Call (.Name x _) [y, .Name z _] [] _ => (x == biName b) && blt T s x && (z == tyName t) && blt T s z && chkL args s [y]
      | _ => false)
    | .rg t => (match e with
      | .Call (.Name x _) [.Call (.Name y _) xs [] _] [] _ => (x == biName b) && blt T s x && (y == ("range" : Str)) && blt T s y && chkL args s xs && Nat.ble args.length 2
      | _ => false)
    | .st t => (match e with
      | .Call (.Name x _) [.Call (.Name y _) [z] [] _] [] _ => (x == biName (.st t)) && blt T s x && (y == ("set" : Str)) && blt T s y && chkL args s [z]
      | _ => false)
    | b => (match e with
      | .Call (.Name x _) xs [] _ => (x == biName b) && blt T s x && chkL args s xs
      | _ => false)
  | .me m a args, s, e => match e with
    | .Call (.Attribute o n p) xs [] q => (n == meName m) && noCall o && (p.endLine == q.line) && chkE a s o && chkL args s xs && Nat.ble xs.length 10 && Nat.ble 1 xs.length
    | _ => false
  | .pop i, s, e => match e with
    | .Call (.Attribute (.Name x _) n p) [] [] q => (n == ("pop" : Str)) && (p.endLine == q.line) && nameAt N i x && isVis s x
    | _ => false
  | .popAt i a, s, e => match e with
    | .Call (.Attribute (.Name x _) n p) [y] [] q => (n == ("pop" : Str)) && (p.endLine == q.line) && nameAt N i x && isVis s x && noStar y && chkE a s y
    | _ => false
  | .comp t k srcs cond elt, s, e => match e with
    | .ListComp x [⟨tg, iter, ifs, 0⟩] scope _ => blkC N s.sc scope (ownOf N t) && noSet iter &&
        chkI T k (chkL srcs s) s tg iter && Nat.ble ifs.length 1 && chkT N ⟨relS scope s.sc, fun x => scope.names.lookup x == some .cell⟩ tg t &&
        chkL cond ⟨relS scope s.sc, fun x => scope.names.lookup x == some .cell⟩ ifs && chkE elt ⟨relS scope s.sc, fun x => scope.names.lookup x == some .cell⟩ x
    | _ => false
def chkL : List E → Sx → List Expr → Bool
  | [], _, xs => match xs with
    | [] => true
    | _ => false
  | a :: r, s, xs => match xs with
    | x :: xr => noStar x && chkE a s x && chkL r s xr
    | [] => false
end
end

/-! ### ownership -/
section
variable (T : Tab)
def ud (ks : List Nat) : E → Nat
  | .var i => kd ks i
  | .idx a _ => ud ks a - 1
  | _ => 0
def root : E → Nat
  | .var i => i
  | .idx a _ => root a
  | _ => 0
mutual
def muts : E → List Nat
  | .tup es => mutsL es
  | .lst es => mutsL es
  | .bin _ a b => muts a ++ muts b
  | .neg a => muts a
  | .cmp _ a b => muts a ++ muts b
  | .cmp2 _ _ a b c => muts a ++ (muts b ++ muts c)
  | .and a b => muts a ++ muts b
  | .or a b => muts a ++ muts b
  | .not a => muts a
  | .ite c a b => muts c ++ (muts a ++ muts b)
  | .idx a b => muts a ++ muts b
  | .slc a lo hi => muts a ++ (mutsL lo ++ mutsL hi)
  | .rv a => muts a
  | .call _ args js _ => mutsL args ++ js
  | .bi _ args => mutsL args
  | .me _ a args => muts a ++ mutsL args
  | .pop i => [i]
  | .popAt i a => muts a ++ [i]
  | .comp _ _ srcs cond elt => mutsL srcs ++ (mutsL cond ++ muts elt)
  | _ => []
def mutsL : List E → List Nat
  | [] => []
  | a :: r => muts a ++ mutsL r
end
def away (ks : List Nat) (a : E) (M : List Nat) : Bool := Nat.beq (ud ks a) 0 || !M.contains (root a)
def safe (ks : List Nat) (a : E) : Bool := Nat.beq (ud ks a) 0
def flatE (ks : List Nat) (a : E) : Bool := Nat.ble (ud ks a) 1
def safeL (ks : List Nat) : List E → Bool
  | [] => true
  | a :: r => safe ks a && safeL ks r
def flatL (ks : List Nat) : List E → Bool
  | [] => true
  | a :: r => flatE ks a && flatL ks r
def twoL (ks : List Nat) : List E → Bool
  | [] => true
  | a :: r => Nat.ble (ud ks a) 2 && twoL ks r
def awayL (ks : List Nat) : List E → List Nat → Bool
  | [], _ => true
  | a :: r, M => away ks a M && awayL ks r M
/-- arguments that are read after others have run -/
def seqL (ks : List Nat) : List E → Bool
  | [] => true
  | a :: r => away ks a (mutsL r) && seqL ks r
/-- slots that hold nothing owned -/
def clr (ks : List Nat) : List Nat → List Nat
  | [] => ks
  | i :: is => clr (ks.set i 0) is
def zeros (ks : List Nat) : List Nat → Bool
  | [] => true
  | i :: is => Nat.beq (kd ks i) 0 && zeros ks is
def nodupN : List Nat → Bool
  | [] => true
  | i :: is => !is.contains i && nodupN is
/-- the io arguments are owned, different, and no other argument leans on them -/
def ioKs (ks : List Nat) : List Nat → List E → Bool
  | [], _ => true
  | k :: kr, .io i :: es => Nat.beq (kd ks i) k && ioKs ks kr es
  | 0 :: kr, _ :: es => ioKs ks kr es
  | _, _ => false
/-- one list in a list -/
def oneL : List E → Bool
  | [.lst _] => true
  | _ => false
/-- how deep a value is a new list -/
def fr (ks : List Nat) : E → Nat
  | .int _ => 9
  | .str _ => 9
  | .bl _ => 9
  | .non => 9
  | .lst es => if oneL es then 2 else 1
  | .bin .add _ _ => 1
  | .bin .mul _ _ => 1
  | .ite _ a b => min (fr ks a) (fr ks b)
  | .slc _ _ _ => 1
  | .rv _ => 1
  | .call f _ _ _ => fnFr T f
  | .bi .list _ => 1
  | .bi .sorted _ => 1
  | .bi (.rg _) _ => 1
  | .bi (.st _) _ => 1
  | .comp _ _ _ _ a => 1 + min 1 (fr ks a)
  | _ => 0
def maxN : List Nat → Nat
  | [] => 0
  | a :: r => max a (maxN r)
mutual
def wfE (ks : List Nat) : E → Bool
  | .tup es => wfL ks es && safeL ks es
  | .lst es => wfL ks es && safeL ks es
  | .bin _ a b => wfE ks a && wfE ks b && flatE ks a && flatE ks b && away ks a (muts b)
  | .neg a => wfE ks a
  | .cmp _ a b => wfE ks a && wfE ks b && away ks a (muts b)
  | .cmp2 _ _ a b c => wfE ks a && wfE ks b && wfE ks c && away ks a (muts b) && away ks b (muts c)
  | .and a b => wfE ks a && wfE ks b && safe ks a && safe ks b
  | .or a b => wfE ks a && wfE ks b && safe ks a && safe ks b
  | .not a => wfE ks a
  | .ite c a b => wfE ks c && wfE ks a && wfE ks b && safe ks a && safe ks b
  | .idx a b => wfE ks a && wfE ks b && away ks a (muts b) && Nat.ble (ud ks a) 3
  | .slc a lo hi => wfE ks a && wfL ks lo && wfL ks hi && flatE ks a && away ks a (mutsL lo ++ mutsL hi)
  | .rv a => wfE ks a && flatE ks a
  | .io _ => false
  | .call f args js brw => wfA ks args && seqL ks args && (match brw with | 0 => safeL ks args | 1 => Nat.ble (maxN (fnKd T f)) 1 | _ => Nat.ble (maxN (fnKd T f)) 1 && Nat.ble 1 (fnFr T f)) && ioKs ks (fnKd T f) args && nodupN js && awayL ks args js && twoL ks args && Nat.ble (fnFr T f) 1
  | .bi b args => wfL ks args && (flatL ks args || (match b, args with | .list, [a] => Nat.beq (ud ks a) 3 | _, _ => false)) && seqL ks args
  | .me _ a args => wfE ks a && wfL ks args && flatE ks a && safeL ks args && away ks a (mutsL args)
  | .pop i => Nat.ble 1 (kd ks i)
  | .popAt i a => Nat.ble 1 (kd ks i) && wfE ks a && !(muts a).contains i
  | .comp t _ srcs cond elt => wfL ks srcs && flatL ks srcs && seqL ks srcs && awayL ks srcs (mutsL cond ++ muts elt) && zeros ks t.slots && nodupN t.slots &&
      wfL ks cond && wfE ks elt && safe ks elt
  | _ => true
def wfL (ks : List Nat) : List E → Bool
  | [] => true
  | a :: r => wfE ks a && wfL ks r
/-- .. io arguments among them -/
def wfA (ks : List Nat) : List E → Bool
  | [] => true
  | a :: r => (isIo a || wfE ks a) && wfA ks r
end
end
end Mp
end
set_option Elab.async false
set_option linter.all false
set_option maxRecDepth 10000
/-! # Mp: expressions mean what they compute. -/
namespace Mp
open PySem PySem.Spec PyProof.Rows L2

/-- what a reading leans on -/
structure Par where
  K : PySem.W.Frag
  C : Nat → List Val → RC
  W : WX
  XR : Hp → Ex → Value → Option Addr → Prop

/-- an operand: safe, or what a slot r owns, u deep; the script (u = 3) -/
def Opr (K : PySem.W.Frag) (H : Hp) (G : Addr → Prop) (O : Own) (u r : Nat) (x : Val) (v : V) : Prop := (∃ Or, SO K H (AA G O) u x v Or ∧ ∀ a ∈ Or, a ∈ O r) ∨ VR K H (AA G O) x v

def Goo {α : Type} (P : Par) (σ : L2.St) (H : Hp) (G : Addr → Prop) (ks : List Nat) (O : Own) (M : List Nat) (T : α → Env → Hp → Own → Prop) : R α → Prop
  | .ok x env' => ∀ H' O', Pst P.K H G ks O M env' σ H' O' → T x env' H' O'
  | .exc x env' => ∀ cls d H' O', Pst P.K H G ks O M env' σ H' O' → P.XR H' x cls d → P.W cls d σ H'
  | .bad => False
section
variable {P : Par} {σ : L2.St} {H H1 : Hp} {G : Addr → Prop} {ks : List Nat} {O O1 : Own} {M M1 : List Nat} {env env1 : Env}
theorem Goo.shift {α : Type} {T : α → Env → Hp → Own → Prop} {r : R α} (p : Pst P.K H G ks O M1 env1 σ H1 O1) (hm : ∀ i, i ∈ M1 → i ∈ M) (g : Goo P σ H G ks O M T r) : Goo P σ H1 G ks O1 M T r := by
  cases r with
  | ok x e => exact fun H' O' q => g H' O' ((p.mono hm).trans q)
  | exc x e => exact fun cls d H' O' q => g cls d H' O' ((p.mono hm).trans q)
  | bad => exact g
theorem Goo.ok {α : Type} {T : α → Env → Hp → Own → Prop} {x : α} (S : Stt P.K H G ks env σ O) (g : Goo P σ H G ks O M T (.ok x env)) : T x env H O := g H O (Pst.refl S)
theorem Goo.ofO {T : Val → Env → Hp → Own → Prop} {o : Option Val} (g : Goo P σ H G ks O M T (ofO o env)) : ∃ z, o = some z ∧ ∀ H' O', Pst P.K H G ks O M env σ H' O' → T z env H' O' := by
  cases o with
  | none => exact g.elim
  | some z => exact ⟨z, rfl, g⟩
theorem Goo.ofB {T : Val → Env → Hp → Own → Prop} {o : Option Bool} (g : Goo P σ H G ks O M T (ofB o env)) : ∃ z, o = some z ∧ ∀ H' O', Pst P.K H G ks O M env σ H' O' → T (.bl z) env H' O' := by
  cases o with
  | none => exact g.elim
  | some z => exact ⟨z, rfl, g⟩
end

/-- an expression's reading; a test's -/
def rdP (P : Par) (ks : List Nat) (e : E) : TE := fun σ H Q => ∃ G O env, Stt P.K H G ks env σ O ∧
  Goo P σ H G ks O (muts e) (fun x _ H' O' => ∀ v, Opr P.K H' G O' (ud ks e) (root e) x v → Q v H') (ev P.C e env)
def rdT (P : Par) (ks : List Nat) (e : E) : TT := fun σ H Q => ∃ G O env, Stt P.K H G ks env σ O ∧
  Goo P σ H G ks O (muts e) (fun x _ H' _ => ∃ b, x = .bl b ∧ Q b H') (ev P.C e env)
def isIoOf : E → Option Nat
  | .io i => some i
  | _ => none
/-- arguments -/
def Oprs (K : PySem.W.Frag) (H : Hp) (G : Addr → Prop) (ks : List Nat) (O : Own) (σ : L2.St) : List E → List Val → List V → Prop
  | [], xs, vs => xs = [] ∧ vs = []
  | e :: es, xs, vs => ∃ x xr v vr, xs = x :: xr ∧ vs = v :: vr ∧ (match isIoOf e with | some i => σ[i]? = some (some v) | none => Opr K H G O (ud ks e) (root e) x v) ∧ Oprs K H G ks O σ es xr vr
def rdA (P : Par) (ks : List Nat) (es : List E) : TA := fun σ H Q => ∃ G O env, Stt P.K H G ks env σ O ∧
  Goo P σ H G ks O (mutsL es) (fun xs _ H' O' => ∀ vs, Oprs P.K H' G ks O' σ es xs vs → Q vs H') (evs P.C es env)

theorem _root_.L2.PE.imp {X : Cx} {e : Expr} {t t' : TE} (h : PE X e t) (i : ∀ σ H Q, t' σ H Q → t σ H Q) : PE X e t' := ⟨fun pins s σ H Q I q => h.run pins s σ H Q I (i σ H Q q)⟩
theorem _root_.L2.PT.imp {X : Cx} {e : Expr} {t t' : TT} (h : PT X e t) (i : ∀ σ H Q, t' σ H Q → t σ H Q) : PT X e t' := ⟨fun pins s σ H Q I q => h.run pins s σ H Q I (i σ H Q q)⟩
theorem _root_.L2.PW.imp {X : Cx} {e : Expr} {t t' : TT} (h : PW X e t) (i : ∀ σ H Q, t' σ H Q → t σ H Q) : PW X e t' := ⟨fun w pins s σ H Q I q => h.run w pins s σ H Q I (i σ H Q q)⟩
theorem _root_.L2.PA.imp {X : Cx} {e : List Expr} {t t' : TA} (h : PA X e t) (i : ∀ σ H Q, t' σ H Q → t σ H Q) : PA X e t' := ⟨fun p pins s σ H Q I q => h.run p pins s σ H Q I (i σ H Q q)⟩

/-! ### operands -/
section
variable {K : PySem.W.Frag} {H H1 : Hp} {G : Addr → Prop} {ks : List Nat} {O O1 : Own} {M ks' : List Nat} {env env1 : Env} {σ σ' : L2.St} {u r : Nat} {v : V}
theorem Opr.of {x : Val} (h : VR K H (AA G O) x v) : Opr K H G O u r x v := .inr h
theorem Opr.vr {x : Val} (h : Opr K H G O 0 r x v) : VR K H (AA G O) x v := by
  rcases h with ⟨Or, ⟨e, _⟩ | ⟨_, h, _⟩, _⟩ | h
  · cases e
  · exact h
  · exact h
theorem Opr.nl {x : Val} (h : Opr K H G O u r x v) (nl : ∀ xs, x ≠ .lst xs) (no : ∀ xs, x ≠ .opq 0 xs) : VR K H (AA G O) x v := by
  rcases h with ⟨Or, ⟨_, ⟨a, ns, e, _⟩, _⟩ | ⟨_, h⟩, _⟩ | h
  · exact absurd e (no _)
  · cases u with
    | zero => exact h.1
    | succ d =>
      rcases h with ⟨xs, _, _, _, e, _⟩ | ⟨_, h, _⟩
      · exact absurd e (nl xs)
      · exact h
  · exact h
theorem Opr.int {i : Int} (h : Opr K H G O u r (.int i) v) : v = .int i := h.nl (fun _ z => nomatch z) (fun _ z => nomatch z)
theorem Opr.bl {i : Bool} (h : Opr K H G O u r (.bl i) v) : v = .bl i := h.nl (fun _ z => nomatch z) (fun _ z => nomatch z)
theorem Opr.non (h : Opr K H G O u r .non v) : v = .non := h.nl (fun _ z => nomatch z) (fun _ z => nomatch z)
theorem Opr.str {s : Str} (h : Opr K H G O u r (.str s) v) : v = .str s ∧ PyData.strOk s = true ∧ Nat.ble s.length LIM = true := h.nl (fun _ z => nomatch z) (fun _ z => nomatch z)
theorem Opr.tup {xs : List Val} (h : Opr K H G O u r (.tup xs) v) : ∃ a vs, v = .ref a ∧ TupK K H a vs ∧ VRs K H (AA G O) xs vs := h.nl (fun _ z => nomatch z) (fun _ z => nomatch z)
theorem Opr.dct {xs ys : List Val} (h : Opr K H G O u r (.dct xs ys) v) : False := h.nl (fun _ z => nomatch z) (fun _ z => nomatch z)
theorem Opr.undef (h : Opr K H G O u r .undef v) : False := h.nl (fun _ z => nomatch z) (fun _ z => nomatch z)
theorem Opr.opq {k : Nat} {xs : List Val} (h : Opr K H G O u r (.opq k xs) v) : u = 3 ∧ Scr K H (.opq k xs) v := by
  rcases h with ⟨Or, ⟨e, h, _⟩ | ⟨_, h⟩, _⟩ | h
  · exact ⟨e, h⟩
  · cases u with
    | zero => exact h.1.elim
    | succ d =>
      rcases h with ⟨xs, _, _, _, e, _⟩ | ⟨_, h, _⟩
      · cases e
      · exact h.elim
  · exact h.elim
/-- a list of which no more than the list itself is owned -/
theorem Opr.lst {xs : List Val} (hu : u ≤ 1) (h : Opr K H G O u r (.lst xs) v) : ∃ a vs, v = .ref a ∧ H a = some (.lst vs) ∧ VRs K H (AA G O) xs vs := by
  rcases h with ⟨Or, ⟨_, ⟨a, ns, e, _⟩, _⟩ | ⟨_, h⟩, _⟩ | ⟨a, vs, e1, e2, _, t⟩
  · cases e
  · match u, hu, h with
    | 0, _, ⟨⟨a, vs, e1, e2, _, t⟩, _⟩ => exact ⟨a, vs, e1, e2, t⟩
    | 1, _, .inl ⟨ys, a, vs, O', e, e1, e2, _, t⟩ =>
      cases e
      exact ⟨a, vs, e1, e2, (Sp3.of0 t).1⟩
    | 1, _, .inr ⟨nl, _, _⟩ => exact absurd rfl (nl xs)
  · exact ⟨a, vs, e1, e2, t⟩
/-- a list, however deep it is owned -/
theorem Opr.lstAny {xs : List Val} (h : Opr K H G O u r (.lst xs) v) : ∃ a vs, v = .ref a ∧ H a = some (.lst vs) ∧ vs.length = xs.length := by
  rcases h with ⟨Or, ⟨_, ⟨a, ns, e, _⟩, _⟩ | ⟨_, h⟩, _⟩ | ⟨a, vs, e1, e2, _, t⟩
  · cases e
  · cases u with
    | zero =>
      obtain ⟨⟨a, vs, e1, e2, _, t⟩, _⟩ := h
      exact ⟨a, vs, e1, e2, t.length⟩
    | succ d =>
      rcases h with ⟨ys, a, vs, O', e, e1, e2, _, t⟩ | ⟨nl, _, _⟩
      · cases e
        exact ⟨a, vs, e1, e2, t.length⟩
      · exact absurd rfl (nl xs)
  · exact ⟨a, vs, e1, e2, t.length⟩
/-- an operand stays while another one runs -/
theorem Opr.step {x : Val} (S : Stt K H G ks env σ O) (p : Pst K H G ks' O M env1 σ' H1 O1) (hr : u = 0 ∨ r ∉ M) (h : Opr K H G O u r x v) : Opr K H1 G O1 u r x v := by
  refine h.elim (fun ⟨Or, h, ho⟩ => ?_) fun h => .inr (p.vr S h)
  have e0 : u = 0 → Or = [] := fun e => by
    subst e
    rcases h with ⟨e, _⟩ | ⟨_, h⟩
    · cases e
    · exact h.2
  refine .inl ⟨Or, p.orr S (r := r) ?_ ho h, ?_⟩
  · rcases hr with e | e
    · exact .inr (e0 e)
    · exact .inl e
  · intro a ha
    rcases hr with e | e
    · rw [e0 e] at ha; cases ha
    · rw [p.own r e]; exact ho a ha
end
theorem away_of {ks : List Nat} {a : E} {M : List Nat} (h : away ks a M = true) : ud ks a = 0 ∨ root a ∉ M := by
  unfold away at h
  rcases Bool.or_eq_true_iff.mp h with h | h
  · exact .inl (Nat.eq_of_beq_eq_true h)
  · refine .inr fun z => ?_
    rw [Bool.not_eq_true'] at h
    rw [List.contains_iff_mem.mpr z] at h
    cases h

/-! ### one behind the other -/
section
variable {P : Par} {σ : L2.St} {H : Hp} {G : Addr → Prop} {ks : List Nat} {O : Own} {M : List Nat} {env : Env}
theorem bindP {α : Type} {T : α → Env → Hp → Own → Prop} {a : E} {k : Val → Env → R α} {R : V → Hp → Prop} (S : Stt P.K H G ks env σ O) (hM : ∀ i, i ∈ muts a → i ∈ M) (g : Goo P σ H G ks O M T (bindR (ev P.C a env) k))
    (hk : ∀ x env1 v H1 O1, Pst P.K H G ks O (muts a) env1 σ H1 O1 → Opr P.K H1 G O1 (ud ks a) (root a) x v → Goo P σ H1 G ks O1 M T (k x env1) → R v H1) : rdP P ks a σ H R := by
  refine ⟨G, O, env, S, ?_⟩
  cases h : ev P.C a env with
  | ok x e =>
    rw [h] at g
    exact fun H1 O1 p v o => hk x e v H1 O1 p o (Goo.shift p hM g)
  | exc x e =>
    rw [h] at g
    exact fun cls d H1 O1 p => g cls d H1 O1 (p.mono hM)
  | bad =>
    rw [h] at g
    exact g
/-- .. a truth value, as a value -/
theorem bindPB {α : Type} {T : α → Env → Hp → Own → Prop} {a : E} {k : Bool → Env → R α} {R : V → Hp → Prop} (S : Stt P.K H G ks env σ O) (hM : ∀ i, i ∈ muts a → i ∈ M) (g : Goo P σ H G ks O M T (bindB (ev P.C a env) k))
    (hk : ∀ c env1 H1 O1, Pst P.K H G ks O (muts a) env1 σ H1 O1 → Goo P σ H1 G ks O1 M T (k c env1) → R (.bl c) H1) : rdP P ks a σ H R := by
  refine ⟨G, O, env, S, ?_⟩
  cases h : ev P.C a env with
  | ok x e =>
    rw [h] at g
    cases x with
    | bl c =>
      intro H1 O1 p v o
      rw [o.bl]
      exact hk c e H1 O1 p (Goo.shift p hM g)
    | _ => exact g.elim
  | exc x e =>
    rw [h] at g
    exact fun cls d H1 O1 p => g cls d H1 O1 (p.mono hM)
  | bad =>
    rw [h] at g
    exact g
/-- .. as a test -/
theorem bindPT {α : Type} {T : α → Env → Hp → Own → Prop} {a : E} {k : Bool → Env → R α} {R : Bool → Hp → Prop} (S : Stt P.K H G ks env σ O) (hM : ∀ i, i ∈ muts a → i ∈ M) (g : Goo P σ H G ks O M T (bindB (ev P.C a env) k))
    (hk : ∀ c env1 H1 O1, Pst P.K H G ks O (muts a) env1 σ H1 O1 → Goo P σ H1 G ks O1 M T (k c env1) → R c H1) : rdT P ks a σ H R := by
  refine ⟨G, O, env, S, ?_⟩
  cases h : ev P.C a env with
  | ok x e =>
    rw [h] at g
    cases x with
    | bl c =>
      intro H1 O1 p
      exact ⟨c, rfl, hk c e H1 O1 p (Goo.shift p hM g)⟩
    | _ => exact g.elim
  | exc x e =>
    rw [h] at g
    exact fun cls d H1 O1 p => g cls d H1 O1 (p.mono hM)
  | bad =>
    rw [h] at g
    exact g
/-- .. an int -/
theorem bindPI {α : Type} {T : α → Env → Hp → Own → Prop} {a : E} {k : Int → Env → R α} {R : V → Hp → Prop} (S : Stt P.K H G ks env σ O) (hM : ∀ i, i ∈ muts a → i ∈ M) (g : Goo P σ H G ks O M T (bindI (ev P.C a env) k))
    (hk : ∀ c env1 H1 O1, Pst P.K H G ks O (muts a) env1 σ H1 O1 → Goo P σ H1 G ks O1 M T (k c env1) → R (.int c) H1) : rdP P ks a σ H R := by
  refine ⟨G, O, env, S, ?_⟩
  cases h : ev P.C a env with
  | ok x e =>
    rw [h] at g
    cases x with
    | int c =>
      intro H1 O1 p v o
      rw [o.int]
      exact hk c e H1 O1 p (Goo.shift p hM g)
    | _ => exact g.elim
  | exc x e =>
    rw [h] at g
    exact fun cls d H1 O1 p => g cls d H1 O1 (p.mono hM)
  | bad =>
    rw [h] at g
    exact g
/-- .. several -/
theorem bindA {α : Type} {T : α → Env → Hp → Own → Prop} {l : List E} {k : List Val → Env → R α} {R : List V → Hp → Prop} (S : Stt P.K H G ks env σ O) (hM : ∀ i, i ∈ mutsL l → i ∈ M) (g : Goo P σ H G ks O M T (bindR (evs P.C l env) k))
    (hk : ∀ xs env1 vs H1 O1, Pst P.K H G ks O (mutsL l) env1 σ H1 O1 → Oprs P.K H1 G ks O1 σ l xs vs → Goo P σ H1 G ks O1 M T (k xs env1) → R vs H1) : rdA P ks l σ H R := by
  refine ⟨G, O, env, S, ?_⟩
  cases h : evs P.C l env with
  | ok x e =>
    rw [h] at g
    exact fun H1 O1 p v o => hk x e v H1 O1 p o (Goo.shift p hM g)
  | exc x e =>
    rw [h] at g
    exact fun cls d H1 O1 p => g cls d H1 O1 (p.mono hM)
  | bad =>
    rw [h] at g
    exact g
end
/-- a value that is a truth value, as a test -/
theorem rdT_val {P : Par} {ks : List Nat} {e : E} {σ : L2.St} {H : Hp} {Q : Bool → Hp → Prop} (h : rdT P ks e σ H Q) : tB (rdP P ks e) σ H Q := by
  obtain ⟨G, O, env, S, g⟩ := h
  refine ⟨G, O, env, S, ?_⟩
  cases h : ev P.C e env with
  | ok x e1 =>
    rw [h] at g
    intro H' O' p v o
    obtain ⟨b, rfl, q⟩ := g H' O' p
    exact ⟨b, o.bl, q⟩
  | exc x e1 =>
    rw [h] at g
    exact g
  | bad =>
    rw [h] at g
    exact g
end Mp
set_option Elab.async false
set_option linter.all false
set_option maxRecDepth 10000
/-! # Mp: operators. -/
namespace Mp
open PySem PySem.Spec PyProof.Rows L2

/-! ### data -/
mutual
def toPD : Val → PyData
  | .bl b => .bool b
  | .int i => .int i
  | .str s => .str s
  | .tup xs => .tuple (toPDs xs)
  | .lst xs => .list (toPDs xs)
  | _ => .none
def toPDs : List Val → List PyData
  | [] => []
  | x :: xs => toPD x :: toPDs xs
end
mutual
theorem VR.dp {K : PySem.W.Frag} {H : Hp} {A : Addr → Prop} : ∀ {x : Val} {v : V}, VR K H A x v → Dp K H v (toPD x)
  | .non, _, h => by cases (show _ = V.non from h); exact .non
  | .bl b, _, h => by cases (show _ = V.bl b from h); exact .bl b
  | .int i, _, h => by cases (show _ = V.int i from h); exact .int i
  | .str s, _, h => by cases h.1; exact .str s
  | .tup xs, _, h => by
    obtain ⟨a, vs, e, t, r⟩ := h
    subst e
    exact .tup t.sqt (VRs.dp r)
  | .lst xs, _, h => by
    obtain ⟨a, vs, e, t, _, r⟩ := h
    subst e
    exact .lst (SqL.of t) (VRs.dp r)
theorem VRs.dp {K : PySem.W.Frag} {H : Hp} {A : Addr → Prop} : ∀ {xs : List Val} {vs : List V}, VRs K H A xs vs → DpAll K H vs (toPDs xs)
  | [], _, h => by cases (show _ = [] from h); exact .nil
  | x :: xs, _, h => by
    obtain ⟨v, r, e, hv, t⟩ := h
    subst e
    exact .cons (VR.dp hv) (VRs.dp t)
end
mutual
theorem VR.lay {K : PySem.W.Frag} {H : Hp} {A : Addr → Prop} : ∀ {x : Val} {v : V}, VR K H A x v → (toPD x).canLay0 = true
  | .non, _, h => rfl
  | .bl b, _, h => rfl
  | .int i, _, h => rfl
  | .str s, _, h => by
    show PyData.canLay0 (.str s) = true
    unfold PyData.canLay0
    exact h.2.1
  | .tup xs, _, h => by
    obtain ⟨a, vs, e, t, r⟩ := h
    show PyData.canLay0 (.tuple (toPDs xs)) = true
    unfold PyData.canLay0
    exact VRs.lay r
  | .lst xs, _, h => by
    obtain ⟨a, vs, e, t, _, r⟩ := h
    show PyData.canLay0 (.list (toPDs xs)) = true
    unfold PyData.canLay0
    exact VRs.lay r
theorem VRs.lay {K : PySem.W.Frag} {H : Hp} {A : Addr → Prop} : ∀ {xs : List Val} {vs : List V}, VRs K H A xs vs → PyData.canLayAll0 (toPDs xs) = true
  | [], _, h => rfl
  | x :: xs, _, h => by
    obtain ⟨v, r, e, hv, t⟩ := h
    show PyData.canLayAll0 (toPD x :: toPDs xs) = true
    unfold PyData.canLayAll0
    rw [VR.lay hv, VRs.lay t]
    rfl
end
mutual
theorem depth_pd : ∀ x : Val, (toPD x).depth = dep x
  | .undef => rfl
  | .non => rfl
  | .bl _ => rfl
  | .int _ => rfl
  | .str _ => rfl
  | .tup xs => by
    show PyData.depth (.tuple (toPDs xs)) = dep (.tup xs)
    unfold PyData.depth dep
    rw [depths_pd xs]
  | .lst xs => by
    show PyData.depth (.list (toPDs xs)) = dep (.lst xs)
    unfold PyData.depth dep
    rw [depths_pd xs]
  | .dct _ _ => rfl
  | .opq _ _ => rfl
theorem depths_pd : ∀ xs : List Val, PyData.depthAll (toPDs xs) = deps xs
  | [] => rfl
  | x :: xs => by
    show PyData.depthAll (toPD x :: toPDs xs) = deps (x :: xs)
    unfold PyData.depthAll deps
    rw [depth_pd x, depths_pd xs]
end
mutual
theorem VR.eqv {K K' : PySem.W.Frag} {H H' : Hp} {A A' : Addr → Prop} : ∀ {x y : Val} {v w : V}, VR K H A x v → VR K' H' A' y w → PyData.eqv (toPD x) (toPD y) = Mp.eqv x y
  | .non, y, _, _, _, h => by cases y <;> first | rfl | exact h.elim
  | .bl b, y, _, _, _, h => by cases y <;> first | rfl | exact h.elim
  | .int i, y, _, _, _, h => by cases y <;> first | rfl | exact h.elim
  | .str s, y, _, _, _, h => by cases y <;> first | rfl | exact h.elim
  | .tup xs, y, _, _, g, h => by
    cases y <;> first | rfl | exact h.elim | skip
    rename_i ys
    obtain ⟨a, vs, e, t, r⟩ := g
    obtain ⟨a', vs', e', t', r'⟩ := h
    show PyData.eqv (.tuple (toPDs xs)) (.tuple (toPDs ys)) = Mp.eqv (.tup xs) (.tup ys)
    unfold PyData.eqv Mp.eqv
    exact VRs.eqvs r r'
  | .lst xs, y, _, _, g, h => by
    cases y <;> first | rfl | exact h.elim | skip
    rename_i ys
    obtain ⟨a, vs, e, t, _, r⟩ := g
    obtain ⟨a', vs', e', t', _, r'⟩ := h
    show PyData.eqv (.list (toPDs xs)) (.list (toPDs ys)) = Mp.eqv (.lst xs) (.lst ys)
    unfold PyData.eqv Mp.eqv
    exact VRs.eqvs r r'
theorem VRs.eqvs {K K' : PySem.W.Frag} {H H' : Hp} {A A' : Addr → Prop} : ∀ {xs ys : List Val} {vs ws : List V}, VRs K H A xs vs → VRs K' H' A' ys ws → PyData.eqvAll (toPDs xs) (toPDs ys) = Mp.eqvs xs ys
  | [], ys, _, _, _, _ => by cases ys <;> rfl
  | x :: xs, [], _, _, _, _ => rfl
  | x :: xs, y :: ys, _, _, g, h => by
    obtain ⟨v, r, e, hv, t⟩ := g
    obtain ⟨w, r', e', hw, t'⟩ := h
    show PyData.eqvAll (toPD x :: toPDs xs) (toPD y :: toPDs ys) = Mp.eqvs (x :: xs) (y :: ys)
    unfold PyData.eqvAll Mp.eqvs
    rw [VR.eqv hv hw, VRs.eqvs t t']
end
theorem VRs.anyEq {K K' : PySem.W.Frag} {H H' : Hp} {A A' : Addr → Prop} {x : Val} {v : V} (hx : VR K' H' A' x v) : ∀ {ys : List Val} {ws : List V}, VRs K H A ys ws → (toPDs ys).any (fun y => PyData.eqv y (toPD x)) = Mp.anyEq x ys
  | [], _, _ => rfl
  | y :: ys, _, h => by
    obtain ⟨w, r, e, hw, t⟩ := h
    show (toPD y :: toPDs ys).any _ = Mp.anyEq x (y :: ys)
    rw [List.any_cons, VR.eqv hw hx, VRs.anyEq hx t]
    rfl
section
variable {K : PySem.W.Frag} {H H1 : Hp} {G : Addr → Prop} {ks : List Nat} {O O1 : Own} {M : List Nat} {env env1 : Env} {σ : L2.St} {u r : Nat} {v : V}
/-- an operand's content, whoever owns it -/
theorem Opr.all {x : Val} (h : Opr K H G O u r x v) (d : isDat x = true) : VR K H (fun _ => True) x v := by
  rcases h with ⟨Or, ⟨_, ⟨a, ns, e, _⟩, _⟩ | ⟨_, h⟩, _⟩ | h
  · subst e; cases d
  · exact h.free (fun _ _ _ => True.intro) fun _ _ => True.intro
  · exact h.mono fun _ _ _ => True.intro
end

/-! ### == and in, of data -/
def rEqG (K : PySem.W.Frag) (neg : Bool) : R2 := fun x y H Q => ∃ d e, Dp K H x d ∧ Dp K H y e ∧ d.canLay0 = true ∧ e.canLay0 = true ∧ min d.depth e.depth ≤ 190 ∧ Q (.bl (if neg then !PyData.eqv d e else PyData.eqv d e)) H
def rInG (K : PySem.W.Frag) (neg : Bool) : R2 := fun x y H Q => ∃ d ds, Dp K H x d ∧ (Dp K H y (.list ds) ∨ Dp K H y (.tuple ds)) ∧ d.canLay0 = true ∧ PyData.canLayAll0 ds = true ∧ min (PyData.depthAll ds) d.depth ≤ 180 ∧
  Q (.bl (if neg then !(ds.any fun z => PyData.eqv z d) else ds.any fun z => PyData.eqv z d)) H
section
variable {X : Cx}
theorem op_eqG (hu : X.A.units + 191 < cLine) : OpR X (compareOp .Eq) (rEqG X.K false) := by
  intro pins s σ H x y v u Q I rx ry h
  obtain ⟨d, e, hd, he, ld, le, hm, q⟩ := h
  obtain ⟨as, r1⟩ := Dp.reads I d x v hd rx
  obtain ⟨bs, r2⟩ := Dp.reads I e y u he ry
  exact SeqAt.compareEq_reads r1 r2 ld le (by omega) ⟨.bl _, H, I, rfl, q⟩
theorem op_neG (hu : X.A.units + 191 < cLine) : OpR X (compareOp .NotEq) (rEqG X.K true) := by
  intro pins s σ H x y v u Q I rx ry h
  obtain ⟨d, e, hd, he, ld, le, hm, q⟩ := h
  obtain ⟨as, r1⟩ := Dp.reads I d x v hd rx
  obtain ⟨bs, r2⟩ := Dp.reads I e y u he ry
  exact SeqAt.compareNe_reads r1 r2 ld le (by omega) ⟨.bl _, H, I, rfl, q⟩
theorem op_inG (hu : X.A.units + 191 < cLine) : OpR X (compareOp .In) (rInG X.K false) := by
  intro pins s σ H x y v u Q I rx ry h
  obtain ⟨d, ds, hd, he, ld, le, hm, q⟩ := h
  obtain ⟨as, r1⟩ := Dp.reads I d x v hd rx
  rcases he with he | he
  · obtain ⟨bs, r2⟩ := Dp.reads I _ y u he ry
    exact SeqAt.in_list_reads r2 r1 le ld (by omega) ⟨.bl _, H, I, rfl, q⟩
  · obtain ⟨bs, r2⟩ := Dp.reads I _ y u he ry
    exact SeqAt.in_tuple_reads r2 r1 le ld (by omega) ⟨.bl _, H, I, rfl, q⟩
theorem op_notInG (hu : X.A.units + 191 < cLine) : OpR X (compareOp .NotIn) (rInG X.K true) := by
  intro pins s σ H x y v u Q I rx ry h
  obtain ⟨d, ds, hd, he, ld, le, hm, q⟩ := h
  obtain ⟨as, r1⟩ := Dp.reads I d x v hd rx
  rcases he with he | he
  · obtain ⟨bs, r2⟩ := Dp.reads I _ y u he ry
    exact SeqAt.notIn_list_reads r2 r1 le ld (by omega) ⟨.bl _, H, I, rfl, q⟩
  · obtain ⟨bs, r2⟩ := Dp.reads I _ y u he ry
    exact SeqAt.notIn_tuple_reads r2 r1 le ld (by omega) ⟨.bl _, H, I, rfl, q⟩
end

/-! ### the operators' readings -/
def rNo : R2 := fun _ _ _ _ => False
theorem OpR.no {X : Cx} {f : Value → Value → Sem Value} : OpR X f rNo := fun _ _ _ _ _ _ _ _ _ _ _ _ h => h.elim
def rAddS : R2 := fun x y H Q => ∃ i j, x = .str i ∧ y = .str j ∧ i.length + j.length ≤ sizeLine ∧ Q (.str (i ++ j)) H
def rBop (K : PySem.W.Frag) : Bop → R2
  | .add => fun x y H Q => rI0 (fun i j => .int (i + j)) x y H Q ∨ rCatF K x y H Q ∨ rCat x y H Q ∨ rAddS x y H Q
  | .sub => rI0 fun i j => .int (i - j)
  | .mul => fun x y H Q => rI CMul (fun i j => .int (i * j)) x y H Q ∨ rRep x y H Q ∨ rRepF K x y H Q ∨ rRep1 K x y H Q
  | .fdiv => rI CDivW fun i j => .int (i / j)
  | .mod => rI (fun _ j => 0 < j) fun i j => .int (i % j)
  | .pow => rI CPow fun i j => .int (i ^ j.toNat)
  | _ => rNo
theorem op_bop {X : Cx} : ∀ o : Bop, OpR X (binaryOp (opOf o)) (rBop X.K o)
  | .add => op_add.or (op_catF.or (op_cat.or op_add_str))
  | .sub => op_sub
  | .mul => op_mul.or (op_rep.or (op_repF.or op_rep1))
  | .fdiv => op_fdivW
  | .mod => op_mod
  | .pow => op_pow
  | .band => OpR.no
  | .bor => OpR.no
  | .bxor => OpR.no
  | .shl => OpR.no
  | .shr => OpR.no
theorem lim_line {n : Nat} (h : Nat.ble n LIM = true) : n ≤ sizeLine := Nat.le_trans (Nat.le_of_ble_eq_true h) (by rw [sizeLine_eq]; decide)
theorem small_iff {i : Int} (h : small i = true) : -(2 ^ 64) < i ∧ i < 2 ^ 64 := by
  unfold small big at h
  simp only [Bool.and_eq_true, decide_eq_true_eq] at h
  omega
theorem str_len_append (a b : Str) : (a ++ b).length = a.length + b.length := by
  show (a.cps ++ b.cps).size = _
  rw [Array.size_append]
  rfl
/-- strings stay good -/
theorem strOk_append {a b : Str} (h : PyData.strOk a = true) (h' : PyData.strOk b = true) : PyData.strOk (a ++ b) = true := by
  unfold PyData.strOk at *
  have e : (a ++ b).cps = a.cps ++ b.cps := rfl
  rw [e, Array.all_append, h, h']
  rfl
section
variable {K : PySem.W.Frag} {H : Hp} {G : Addr → Prop} {ks : List Nat} {O : Own} {env : Env} {σ : L2.St} {u1 r1 u2 r2 : Nat} {x y z : Val} {v w : V} {Q : VK}
/-- what may be handed on: the heap as it is, or with one more object -/
def Hands (K : PySem.W.Frag) (H : Hp) (G : Addr → Prop) (ks : List Nat) (O : Own) (env : Env) (σ : L2.St) (z : Val) (Q : VK) : Prop := ∀ H' O', Pst K H G ks O [] env σ H' O' → ∀ v, NewV K H H' G ks env σ O' 1 z v → Q v H'
theorem Hands.same (S : Stt K H G ks env σ O) (h : Hands K H G ks O env σ z Q) {v : V} (q : VR K H (AA G O) z v) (nl : ∀ xs, z ≠ .lst xs := by intro _ h; cases h) : Q v H := h H O (Pst.refl S) v (NewV.flat S nl q)
theorem Hands.tup {zs : List Val} {vs : List V} (S : Stt K H G ks env σ O) (h : Hands K H G ks O env σ (.tup zs) Q) (q : VRs K H (AA G O) zs vs) : Nt H vs Q := fun p o hp d =>
  h _ O (Pst.laid S hp) _ (NewV.flat (S.laid hp) (by intro _ h; cases h) ⟨p, vs, rfl, TupK.new upd_same d, (Pst.laid (M := []) S hp).vrs S q⟩)
theorem Hands.lst {zs : List Val} {vs : List V} (S : Stt K H G ks env σ O) (h : Hands K H G ks O env σ (.lst zs) Q) (q : VRs K H (AA G O) zs vs) (p : Addr) (hp : H p = none) : Q (.ref p) (upd H p (.lst vs)) :=
  h _ O (Pst.laid S hp) _ (NewV.lst S hp q)
theorem VRs.nil_iff {A : Addr → Prop} {xs : List Val} {vs : List V} (h : VRs K H A xs vs) : vs = [] ↔ xs = [] := by
  cases xs with
  | nil => simp [show vs = [] from h]
  | cons a r =>
    obtain ⟨v, r', e, _⟩ := h
    simp [e]
theorem bop_ok {o : Bop} (S : Stt K H G ks env σ O) (h1 : u1 ≤ 1) (h2 : u2 ≤ 1) (o1 : Opr K H G O u1 r1 x v) (o2 : Opr K H G O u2 r2 y w) (hz : bop o x y = some z) (hq : Hands K H G ks O env σ z Q) : rBop K o v w H Q := by
  cases o with
  | add =>
    cases x <;> cases y <;> first | (have hz' : (none : Option Val) = some z := hz; cases hz'; done) | skip
    · rename_i i j
      cases hz
      exact .inl ⟨i, j, o1.int, o2.int, hq.same S rfl⟩
    · rename_i s t
      have hz : (if Nat.ble (s.length + t.length) LIM then some (Val.str (s ++ t)) else none) = some z := hz
      split at hz
      · rename_i hl
        cases hz
        exact .inr (.inr (.inr ⟨s, t, o1.str.1, o2.str.1, lim_line hl, hq.same S ⟨rfl, strOk_append o1.str.2.1 o2.str.2.1, by rw [str_len_append]; exact hl⟩⟩))
      · cases hz
    · rename_i xs ys
      have hz : (if Nat.ble (xs.length + ys.length) LIM then some (Val.tup (xs ++ ys)) else none) = some z := hz
      split at hz
      · rename_i hl
        cases hz
        obtain ⟨a, vs, rfl, ta, ra⟩ := o1.tup
        obtain ⟨b, ws, rfl, tb, rb⟩ := o2.tup
        refine .inr (.inl ⟨a, b, vs, ws, rfl, rfl, ta.sqt, tb.sqt, by rw [ra.length, rb.length]; exact lim_line hl, fun e => ?_, fun _ e => ?_, fun _ _ => ?_⟩)
        · have e' := ra.nil_iff.mp e
          subst e'
          exact hq.same S ⟨b, ws, rfl, tb, rb⟩
        · have e' := rb.nil_iff.mp e
          subst e'
          rw [List.append_nil] at hq
          exact hq.same S ⟨a, vs, rfl, ta, ra⟩
        · exact hq.tup S (ra.append rb)
      · cases hz
    · rename_i xs ys
      have hz : (if Nat.ble (xs.length + ys.length) LIM then some (Val.lst (xs ++ ys)) else none) = some z := hz
      split at hz
      · rename_i hl
        cases hz
        obtain ⟨a, vs, rfl, ta, ra⟩ := o1.lst h1
        obtain ⟨b, ws, rfl, tb, rb⟩ := o2.lst h2
        exact .inr (.inr (.inl ⟨a, b, vs, ws, rfl, rfl, ta, tb, by rw [ra.length, rb.length]; exact lim_line hl, fun p hp => hq.lst S (ra.append rb) p hp⟩))
      · cases hz
  | sub =>
    cases x <;> cases y <;> first | (have hz' : (none : Option Val) = some z := hz; cases hz'; done) | skip
    rename_i i j
    cases hz
    exact ⟨i, j, o1.int, o2.int, hq.same S rfl⟩
  | mul =>
    cases x <;> cases y <;> first | (have hz' : (none : Option Val) = some z := hz; cases hz'; done) | skip
    · rename_i i j
      have hz : (if small i || small j then some (Val.int (i * j)) else none) = some z := hz
      split at hz
      · rename_i hl
        cases hz
        exact .inl ⟨i, j, o1.int, o2.int, (Bool.or_eq_true_iff.mp hl).imp small_iff small_iff, hq.same S rfl⟩
      · cases hz
    · rename_i xs k
      have hz : (if decide (2 ≤ k) && decide (k ≤ 1000) && Nat.ble xs.length 1000 && Nat.ble 1 xs.length then some (Val.tup (reps xs k.toNat)) else (if decide (k = 1) then some (Val.tup xs) else none)) = some z := hz
      split at hz
      · rename_i hl
        simp only [Bool.and_eq_true, decide_eq_true_eq] at hl
        obtain ⟨⟨⟨l1, l2⟩, l3⟩, l4⟩ := hl
        cases hz
        obtain ⟨a, vs, rfl, ta, ra⟩ := o1.tup
        have l3 := Nat.le_of_ble_eq_true l3
        have l4 := Nat.le_of_ble_eq_true l4
        refine .inr (.inr (.inl ⟨a, k, vs, rfl, o2.int, ta.sqt, fun e => ?_, l1, l2, by rw [ra.length]; exact l3, hq.tup S (ra.reps _)⟩))
        rw [← ra.length, e] at l4
        exact absurd l4 (by decide)
      · split at hz
        · rename_i hk
          have hk := of_decide_eq_true hk
          subst hk
          cases hz
          obtain ⟨a, vs, rfl, ta, ra⟩ := o1.tup
          exact .inr (.inr (.inr ⟨a, vs, rfl, o2.int, ta.sqt, hq.same S ⟨a, vs, rfl, ta, ra⟩⟩))
        · cases hz
    · rename_i xs k
      have hz : (if decide (0 ≤ k) && decide (k < 1000000) && Nat.ble (xs.length * k.toNat) LIM then some (Val.lst (reps xs k.toNat)) else none) = some z := hz
      split at hz
      · rename_i hl
        simp only [Bool.and_eq_true, decide_eq_true_eq] at hl
        obtain ⟨⟨l1, l2⟩, l3⟩ := hl
        cases hz
        obtain ⟨a, vs, rfl, ta, ra⟩ := o1.lst h1
        exact .inr (.inl ⟨a, k, vs, rfl, o2.int, ta, by omega, by omega, by rw [ra.length]; exact lim_line l3, fun p hp => hq.lst S (ra.reps _) p hp⟩)
      · cases hz
  | fdiv =>
    cases x <;> cases y <;> first | (have hz' : (none : Option Val) = some z := hz; cases hz'; done) | skip
    rename_i i j
    have hz : (if decide (0 < j) && decide (j < 18446744073709551616) then some (Val.int (i / j)) else none) = some z := hz
    split at hz
    · rename_i hl
      simp only [Bool.and_eq_true, decide_eq_true_eq] at hl
      cases hz
      exact ⟨i, j, o1.int, o2.int, wide_div (b := 64) hl.1 (by have := hl.2; omega) (by omega) (by omega), hq.same S rfl⟩
    · cases hz
  | mod =>
    cases x <;> cases y <;> first | (have hz' : (none : Option Val) = some z := hz; cases hz'; done) | skip
    rename_i i j
    have hz : (if decide (0 < j) then some (Val.int (i % j)) else none) = some z := hz
    split at hz
    · rename_i hl
      cases hz
      exact ⟨i, j, o1.int, o2.int, of_decide_eq_true hl, hq.same S rfl⟩
    · cases hz
  | pow =>
    cases x <;> cases y <;> first | (have hz' : (none : Option Val) = some z := hz; cases hz'; done) | skip
    rename_i i j
    have hz : (if decide (0 ≤ j) && decide (j ≤ 1000000) && small i then some (Val.int (i ^ j.toNat)) else none) = some z := hz
    split at hz
    · rename_i hl
      simp only [Bool.and_eq_true, decide_eq_true_eq] at hl
      obtain ⟨⟨l1, l2⟩, l3⟩ := hl
      have l4 := small_iff l3
      cases hz
      exact ⟨i, j, o1.int, o2.int, ⟨l1, l2, by omega⟩, hq.same S rfl⟩
    · cases hz
  | _ => (have hz' : (none : Option Val) = some z := hz; cases hz')
end
end Mp
set_option Elab.async false
set_option linter.all false
set_option maxRecDepth 100000
/-! # Mp: sorted(xs) of a list or a tuple of tuples of ints, of any lengths but 0. -/
namespace Mp
open PySem PySem.Spec PySem.W PyProof.Rows L2
theorem rowLe_eq : ∀ x y : List Int, rowLe x y = decide (x ≤ y)
  | [], y => by
    rw [rowLe]
    exact (decide_eq_true (List.nil_le y)).symm
  | a :: x, [] => by
    rw [rowLe]
    refine (decide_eq_false ?_).symm
    intro h
    exact h (List.nil_lt_cons a x)
  | a :: x, b :: y => by
    rw [rowLe, rowLe_eq x y]
    by_cases h : a < b
    · rw [if_pos h]
      exact (decide_eq_true (List.cons_le_cons_iff.mpr (.inl h))).symm
    · rw [if_neg h]
      by_cases e : a = b
      · rw [if_pos e]
        have : (x ≤ y) ↔ (a :: x ≤ b :: y) := ⟨fun q => List.cons_le_cons_iff.mpr (.inr ⟨e, q⟩), fun q => (List.cons_le_cons_iff.mp q).elim (fun z => absurd z h) fun z => z.2⟩
        exact decide_eq_decide.mpr this
      · rw [if_neg e]
        exact (decide_eq_false fun q => (List.cons_le_cons_iff.mp q).elim h fun z => e z.1).symm
theorem insR_perm (x : List Int) : ∀ l, (insR x l).Perm (x :: l)
  | [] => .refl _
  | y :: ys => by
    rw [insR]
    split
    · exact .refl _
    · exact ((insR_perm x ys).cons y).trans (.swap _ _ _)
theorem sortR_perm : ∀ l, (sortR l).Perm l
  | [] => .refl _
  | x :: xs => (insR_perm x _).trans ((sortR_perm xs).cons x)
theorem rowLe_total (x y : List Int) : rowLe x y = true ∨ rowLe y x = true := by
  rw [rowLe_eq, rowLe_eq, decide_eq_true_eq, decide_eq_true_eq]
  exact List.le_total x y
theorem rowLe_trans {x y z : List Int} (h : rowLe x y = true) (h' : rowLe y z = true) : rowLe x z = true := by
  rw [rowLe_eq, decide_eq_true_eq] at *
  exact List.le_trans h h'
theorem rowLe_anti {x y : List Int} (h : rowLe x y = true) (h' : rowLe y x = true) : x = y := by
  rw [rowLe_eq, decide_eq_true_eq] at *
  exact List.le_antisymm h h'
theorem insR_srt (x : List Int) : ∀ {l}, l.Pairwise (fun a b => rowLe a b = true) → (insR x l).Pairwise (fun a b => rowLe a b = true)
  | [], _ => by rw [insR]; exact List.pairwise_singleton _ _
  | y :: ys, h => by
    obtain ⟨h1, h2⟩ := List.pairwise_cons.mp h
    rw [insR]
    split
    · rename_i q
      refine List.pairwise_cons.mpr ⟨fun z hz => ?_, h⟩
      rcases List.mem_cons.mp hz with e | hz
      · rw [e]; exact q
      · exact rowLe_trans q (h1 z hz)
    · rename_i q
      have q := (rowLe_total x y).resolve_left q
      refine List.pairwise_cons.mpr ⟨fun z hz => ?_, insR_srt x h2⟩
      rcases List.mem_cons.mp ((insR_perm x ys).mem_iff.mp hz) with e | hz
      · rw [e]; exact q
      · exact h1 z hz
theorem sortR_srt : ∀ l, (sortR l).Pairwise (fun a b => rowLe a b = true)
  | [] => .nil
  | x :: xs => insR_srt x (sortR_srt xs)
theorem sortR_of {l m : List (List Int)} (h1 : m.Pairwise (fun a b => rowLe a b = true)) (h2 : m.Perm l) : m = sortR l :=
  List.Perm.eq_of_pairwise (fun _ _ _ _ => rowLe_anti) h1 (sortR_srt l) (h2.trans (sortR_perm l).symm)
def encR (b : V × List Int) : PyData := .tuple (b.2.map PyData.int)
theorem dataLe_encR : dataLe false encR = fun p q => rowLe p.2 q.2 := by
  have h := dataLe_rows (β := V × List Int) (fun b => b.2)
  have e : dataLe false encR = dataLe false fun b : V × List Int => PyData.list (b.2.map PyData.int) := rfl
  rw [e, h]
  funext p q
  exact (rowLe_eq _ _).symm
theorem alike_rows (a b : List Int) : alike (.tuple (a.map .int)) (.tuple (b.map .int)) = true := by
  unfold alike
  induction a generalizing b with
  | nil => cases b <;> rfl
  | cons x xs ih => cases b with
    | nil => rfl
    | cons y ys => simp [alikeAll, alike, ih]
theorem depth_row : ∀ l : List Int, PyData.depthAll (l.map PyData.int) = 0
  | [] => rfl
  | a :: l => by
    rw [List.map_cons]
    unfold PyData.depthAll
    rw [depth_row l]
    rfl
theorem depth_encR (b : V × List Int) : (encR b).depth ≤ 1 := by
  unfold encR PyData.depth
  rw [depth_row]
  exact Nat.le_refl _
theorem eachIs_vals {bs : List (V × List Int)} : ∀ {out : List Value}, EachIs (fun v b => RelV b.1 v) out bs → Vals (bs.map (·.1)) out := by
  intro out h
  induction h with
  | nil => exact .nil
  | cons h1 _ ih => exact .cons h1 ih
/-- sorted(xs) of rows -/
def rSortRows (K : PySem.W.Frag) : List V → Hp → VK → Prop := fun vs H Q => ∃ (a : Addr) (bs : List (V × List Int)), vs = [V.ref a] ∧ SqL K H a (bs.map (·.1)) ∧ (∀ b, b ∈ bs → Dp K H b.1 (encR b) ∧ b.2 ≠ []) ∧
  ∀ p, H p = none → Q (.ref p) (upd H p (.lst ((bs.mergeSort fun p q => rowLe p.2 q.2).map (·.1))))
theorem cr_sortRows {X : Cx} (hu : X.A.units + 191 < cLine) : CallR X (.builtin "sorted") (rSortRows X.K) := by
  intro pins s σ H vs us Q I r h
  obtain ⟨a, bs, rfl, hs, hb, q⟩ := h
  obtain ⟨its, rv, hl, hz⟩ := I.list hs
  rw [Vals.ref1 r]
  have hE : EachIs (fun v b => RelV b.1 v) its bs := by
    clear hl hz hs hb q
    induction bs generalizing its with
    | nil => cases rv; exact .nil
    | cons b bs ih => cases rv with
      | cons h1 h2 => exact .cons h1 (ih _ h2)
  have hR : EachIs (fun v b => ∃ as, Reads s.heap v (encR b) as) its bs := by
    clear hl hz hs q rv
    induction hE with
    | nil => exact .nil
    | cons h1 _ ih =>
      refine .cons (Dp.reads I _ _ _ (hb _ List.mem_cons_self).1 h1) (ih fun b hb' => hb b (List.mem_cons_of_mem _ hb'))
  have hl' : s.heap.IsList a its.toArray := by
    obtain ⟨o, n, h1, h2, _, h3⟩ := hl
    exact ⟨o, h1, h2, n, h3⟩
  refine sorted_data (R := fun v b => RelV b.1 v) (enc := encR) (bs := bs) hl' hE hR ?_ ?_ (by rw [List.length_map] at hz; exact hz) (fun b hb' => by have := depth_encR b; omega) fun out hlen ho => ?_
  · intro d hd d' hd'
    obtain ⟨b, _, rfl⟩ := List.mem_map.mp hd
    obtain ⟨b', _, rfl⟩ := List.mem_map.mp hd'
    exact alike_rows _ _
  · refine .inl fun d hd => ?_
    obtain ⟨b, hb', rfl⟩ := List.mem_map.mp hd
    have := (hb b hb').2
    cases h2 : b.2 with
    | nil => exact absurd h2 this
    | cons x r => exact ⟨_, _, by unfold encR; rw [h2]; rfl⟩
  · rw [dataLe_encR] at ho
    obtain ⟨ep, he'⟩ := PyProof.Rows.sortedAll_at s.heap its out.toArray
    refine ⟨.ref _, upd H (s.heap.objs.size + 1) (.lst ((bs.mergeSort fun p q => rowLe p.2 q.2).map (·.1))), I.laid (t' := s.toks) (fun _ _ => PyProof.Rows.sortedAll_old) (Nat.le_succ _) ⟨?_, out, ep, eachIs_vals ho, he'⟩, rfl, q _ (I.hok.fresh (Nat.le_succ _))⟩
    rw [List.length_map, List.length_mergeSort]
    rw [List.length_map] at hz
    exact hz
theorem mergeSort_rows (bs : List (V × List Int)) : (bs.mergeSort fun p q => rowLe p.2 q.2).map (·.2) = sortR (bs.map (·.2)) := by
  refine sortR_of ?_ ((List.mergeSort_perm bs _).map _)
  rw [List.pairwise_map]
  exact List.pairwise_mergeSort (le := fun p q : V × List Int => rowLe p.2 q.2) (fun a b c => rowLe_trans) (fun a b => by rcases rowLe_total a.2 b.2 with h | h <;> simp [h]) bs
/-! ### rows in the heap -/
theorem ints_toPDs : ∀ l : List Int, toPDs (l.map .int) = l.map PyData.int
  | [] => rfl
  | a :: l => by
    rw [List.map_cons, List.map_cons, ← ints_toPDs l]
    rfl
theorem rowsV_some : ∀ {xs : List Val} {L : List (List Int)}, rowsV xs = some L → xs = L.map rowT ∧ ∀ l, l ∈ L → l ≠ []
  | [], L, h => by cases h; exact ⟨rfl, fun _ z => nomatch z⟩
  | x :: r, L, h => by
    cases x <;> first | (have h' : (none : Option (List (List Int))) = some L := h; cases h'; done) | skip
    rename_i ys
    have h : (match intsV ys with
      | some (a :: l) => (rowsV r).map ((a :: l) :: ·)
      | _ => none) = some L := h
    split at h
    · rename_i a l hl
      cases hr : rowsV r with
      | none => rw [hr] at h; cases h
      | some L' =>
        rw [hr] at h
        cases h
        obtain ⟨h1, h2⟩ := rowsV_some hr
        have hy : ∀ {ys : List Val} {l : List Int}, intsV ys = some l → ys = l.map .int := by
          intro ys
          induction ys with
          | nil => intro l h; cases h; rfl
          | cons y ys ih =>
            intro l h
            cases y <;> first | (have h' : (none : Option (List Int)) = some l := h; cases h'; done) | skip
            rename_i i
            have h : (intsV ys).map (i :: ·) = some l := h
            cases hq : intsV ys with
            | none => rw [hq] at h; cases h
            | some l' =>
              rw [hq] at h
              cases h
              rw [ih hq]
              rfl
        rw [hy hl, h1]
        refine ⟨rfl, fun l hl => ?_⟩
        rcases List.mem_cons.mp hl with e | hl
        · rw [e]; exact fun z => nomatch z
        · exact h2 l hl
    · cases h
theorem rows_dp {K : PySem.W.Frag} {H : Hp} {A : Addr → Prop} : ∀ {L : List (List Int)} {vs : List V}, VRs K H A (L.map rowT) vs → (∀ l, l ∈ L → l ≠ []) → ∃ bs : List (V × List Int), bs.map (·.1) = vs ∧ bs.map (·.2) = L ∧ ∀ b, b ∈ bs → (Dp K H b.1 (encR b) ∧ b.2 ≠ []) ∧ VR K H A (rowT b.2) b.1
  | [], vs, h, _ => by
    have e : vs = [] := h
    subst e
    exact ⟨[], rfl, rfl, fun _ z => nomatch z⟩
  | l :: L, _, ⟨v, r, e, hv, t⟩, hn => by
    subst e
    obtain ⟨bs, h1, h2, h3⟩ := rows_dp t fun l hl => hn l (List.mem_cons_of_mem _ hl)
    refine ⟨(v, l) :: bs, by rw [List.map_cons, h1], by rw [List.map_cons, h2], fun b hb => ?_⟩
    rcases List.mem_cons.mp hb with e | hb
    · subst e
      refine ⟨⟨?_, hn _ List.mem_cons_self⟩, hv⟩
      have := hv.dp
      have e2 : toPD (rowT l) = encR (v, l) := by
        show PyData.tuple (toPDs (l.map .int)) = .tuple (l.map PyData.int)
        rw [ints_toPDs]
      rw [e2] at this
      exact this
    · exact h3 b hb
theorem vrs_rows {K : PySem.W.Frag} {H : Hp} {A : Addr → Prop} : ∀ {bs : List (V × List Int)}, (∀ b, b ∈ bs → VR K H A (rowT b.2) b.1) → VRs K H A ((bs.map (·.2)).map rowT) (bs.map (·.1))
  | [], _ => rfl
  | b :: bs, h => ⟨b.1, _, rfl, h b List.mem_cons_self, vrs_rows fun c hc => h c (List.mem_cons_of_mem _ hc)⟩
end Mp
set_option Elab.async false
set_option linter.all false
set_option maxRecDepth 10000
/-! # Mp: comparisons, items, slices, built-ins. -/
namespace Mp
open PySem PySem.Spec PyProof.Rows L2

def rInStr (neg : Bool) : R2 := fun x y H Q => ∃ i j, x = .str i ∧ y = .str j ∧ Q (.bl (if neg then !(!(Builtin.Str.occurrences j i 0 j.length 1).isEmpty) else !(Builtin.Str.occurrences j i 0 j.length 1).isEmpty)) H
def rIsN (neg : Bool) : R2 := fun x y H Q => y = .non ∧ Q (.bl (if neg then !decide (x = .non) else decide (x = .non))) H
def rCop (K : PySem.W.Frag) : Cop → R2
  | .eq => rEqG K false
  | .ne => rEqG K true
  | .lt => rI0 fun i j => .bl (decide (i < j))
  | .le => rI0 fun i j => .bl (decide (i ≤ j))
  | .gt => rI0 fun i j => .bl (decide (j < i))
  | .ge => rI0 fun i j => .bl (decide (j ≤ i))
  | .isin => fun x y H Q => rInG K false x y H Q ∨ rInStr false x y H Q
  | .notin => fun x y H Q => rInG K true x y H Q ∨ rInStr true x y H Q
  | .is => fun x y H Q => rIsN false x y H Q ∨ rIsB x y H Q
  | .isnot => fun x y H Q => rIsN true x y H Q ∨ rNotB x y H Q
theorem op_cop {X : Cx} (hu : X.A.units + 191 < cLine) : ∀ o : Cop, OpR X (compareOp (copOf o)) (rCop X.K o)
  | .eq => op_eqG hu
  | .ne => op_neG hu
  | .lt => op_lt
  | .le => op_le
  | .gt => op_gt
  | .ge => op_ge
  | .isin => (op_inG hu).or op_in_str
  | .notin => (op_notInG hu).or op_notin_str
  | .is => op_isN.or op_isBl
  | .isnot => op_notN.or op_notBl
section
variable {K : PySem.W.Frag} {H : Hp} {G : Addr → Prop} {ks : List Nat} {O : Own} {env : Env} {σ : L2.St} {u1 r1 u2 r2 : Nat} {x y z : Val} {v w : V} {Q : VK}
theorem VR.non_iff {A : Addr → Prop} (h : VR K H A x v) : decide (v = .non) = isNon x := by
  cases x with
  | non => cases (show v = V.non from h); rfl
  | bl b => cases (show v = V.bl b from h); rfl
  | int i => cases (show v = V.int i from h); rfl
  | str s => cases h.1; rfl
  | tup xs => obtain ⟨a, vs, rfl, _⟩ := h; rfl
  | lst xs => obtain ⟨a, vs, rfl, _⟩ := h; rfl
  | _ => exact h.elim
theorem cEq_some {b : Bool} (h : cEq x y = some b) : okEq x y = true ∧ b = eqv x y := by
  unfold cEq at h
  split at h
  · rename_i q
    exact ⟨q, by cases h; rfl⟩
  · cases h
theorem eq_ok {b : Bool} (S : Stt K H G ks env σ O) (o1 : Opr K H G O u1 r1 x v) (o2 : Opr K H G O u2 r2 y w) (h : cEq x y = some b) : ∃ d e, Dp K H v d ∧ Dp K H w e ∧ d.canLay0 = true ∧ e.canLay0 = true ∧ min d.depth e.depth ≤ 190 ∧ PyData.eqv d e = b := by
  obtain ⟨q, rfl⟩ := cEq_some h
  unfold okEq at q
  simp only [Bool.and_eq_true] at q
  obtain ⟨⟨q1, q2⟩, q3⟩ := q
  have a1 := o1.all q1
  have a2 := o2.all q2
  exact ⟨toPD x, toPD y, a1.dp, a2.dp, a1.lay, a2.lay, by rw [depth_pd, depth_pd]; exact Nat.le_of_ble_eq_true q3, a1.eqv a2⟩
theorem inL_some {b : Bool} {ys : List Val} (h : inL x ys = some b) : isDat x = true ∧ min (deps ys) (dep x) ≤ 180 ∧ b = anyEq x ys := by
  unfold inL at h
  split at h
  · rename_i q
    simp only [Bool.and_eq_true] at q
    exact ⟨q.1, Nat.le_of_ble_eq_true q.2, by cases h; rfl⟩
  · cases h
theorem in_ok {b : Bool} (o1 : Opr K H G O u1 r1 x v) (o2 : Opr K H G O u2 r2 y w) (h : isIn x y = some b) :
    (∃ d ds, Dp K H v d ∧ (Dp K H w (.list ds) ∨ Dp K H w (.tuple ds)) ∧ d.canLay0 = true ∧ PyData.canLayAll0 ds = true ∧ min (PyData.depthAll ds) d.depth ≤ 180 ∧ (ds.any fun z => PyData.eqv z d) = b) ∨
      ∃ i j, v = .str i ∧ w = .str j ∧ (!(Builtin.Str.occurrences j i 0 j.length 1).isEmpty) = b := by
  cases y with
  | lst ys =>
    obtain ⟨q1, q2, rfl⟩ := inL_some h
    have a1 := o1.all q1
    obtain ⟨a, vs, rfl, t, _, r⟩ := o2.all rfl
    exact .inl ⟨toPD x, toPDs ys, a1.dp, .inl (.lst (SqL.of t) r.dp), a1.lay, r.lay, by rw [depths_pd, depth_pd]; exact q2, VRs.anyEq a1 r⟩
  | tup ys =>
    obtain ⟨q1, q2, rfl⟩ := inL_some h
    have a1 := o1.all q1
    obtain ⟨a, vs, rfl, t, r⟩ := o2.all rfl
    exact .inl ⟨toPD x, toPDs ys, a1.dp, .inr (.tup t.sqt r.dp), a1.lay, r.lay, by rw [depths_pd, depth_pd]; exact q2, VRs.anyEq a1 r⟩
  | str t =>
    cases x with
    | str s =>
      cases h
      exact .inr ⟨s, t, o1.str.1, o2.str.1, rfl⟩
    | _ => exact nomatch (show (none : Option Bool) = some b from h)
  | _ => exact nomatch (show (none : Option Bool) = some b from h)
theorem notO_some {o : Option Bool} {b : Bool} (h : notO o = some b) : ∃ c, o = some c ∧ b = !c := by
  cases o with
  | none => cases h
  | some c => cases h; exact ⟨c, rfl, rfl⟩
theorem cmpI_some {f : Int → Int → Bool} {b : Bool} (h : cmpI f x y = some b) : ∃ i j, x = .int i ∧ y = .int j ∧ b = f i j := by
  cases x <;> first | (have h' : (none : Option Bool) = some b := h; cases h'; done) | skip
  cases y <;> first | (have h' : (none : Option Bool) = some b := h; cases h'; done) | skip
  cases h
  exact ⟨_, _, rfl, rfl, rfl⟩
theorem cIs_some {b : Bool} (h : cIs x y = some b) : (∃ c d, x = .bl c ∧ y = .bl d ∧ b = (c == d)) ∨ (y = .non ∧ isDat x = true ∧ b = isNon x) := by
  cases y with
  | bl d =>
    cases x <;> first | (have h' : (none : Option Bool) = some b := h; cases h'; done) | skip
    cases h
    exact .inl ⟨_, _, rfl, rfl, rfl⟩
  | non =>
    have h : (if isDat x then some (isNon x) else none) = some b := h
    split at h
    · rename_i q
      cases h
      exact .inr ⟨rfl, q, rfl⟩
    · cases h
  | _ => exact nomatch (show (none : Option Bool) = some b from h)
theorem cop_ok {o : Cop} {b : Bool} (S : Stt K H G ks env σ O) (o1 : Opr K H G O u1 r1 x v) (o2 : Opr K H G O u2 r2 y w) (hz : cop o x y = some b) (hq : Q (.bl b) H) : rCop K o v w H Q := by
  cases o with
  | eq =>
    obtain ⟨d, e, h1, h2, h3, h4, h5, rfl⟩ := eq_ok S o1 o2 hz
    exact ⟨d, e, h1, h2, h3, h4, h5, hq⟩
  | ne =>
    obtain ⟨c, hc, rfl⟩ := notO_some hz
    obtain ⟨d, e, h1, h2, h3, h4, h5, rfl⟩ := eq_ok S o1 o2 hc
    exact ⟨d, e, h1, h2, h3, h4, h5, hq⟩
  | lt =>
    obtain ⟨i, j, rfl, rfl, rfl⟩ := cmpI_some hz
    exact ⟨i, j, o1.int, o2.int, hq⟩
  | le =>
    obtain ⟨i, j, rfl, rfl, rfl⟩ := cmpI_some hz
    exact ⟨i, j, o1.int, o2.int, hq⟩
  | gt =>
    obtain ⟨i, j, rfl, rfl, rfl⟩ := cmpI_some hz
    exact ⟨i, j, o1.int, o2.int, hq⟩
  | ge =>
    obtain ⟨i, j, rfl, rfl, rfl⟩ := cmpI_some hz
    exact ⟨i, j, o1.int, o2.int, hq⟩
  | isin =>
    rcases in_ok o1 o2 hz with ⟨d, ds, h1, h2, h3, h4, h5, rfl⟩ | ⟨i, j, h1, h2, rfl⟩
    · exact .inl ⟨d, ds, h1, h2, h3, h4, h5, hq⟩
    · exact .inr ⟨i, j, h1, h2, hq⟩
  | notin =>
    obtain ⟨c, hc, rfl⟩ := notO_some hz
    rcases in_ok o1 o2 hc with ⟨d, ds, h1, h2, h3, h4, h5, rfl⟩ | ⟨i, j, h1, h2, rfl⟩
    · exact .inl ⟨d, ds, h1, h2, h3, h4, h5, hq⟩
    · exact .inr ⟨i, j, h1, h2, hq⟩
  | is =>
    rcases cIs_some hz with ⟨c, d, rfl, rfl, rfl⟩ | ⟨rfl, q, rfl⟩
    · exact .inr ⟨c, d, o1.bl, o2.bl, by rw [← Bool.beq_eq_decide_eq]; exact hq⟩
    · exact .inl ⟨o2.non, by show Q (.bl (decide (v = .non))) H; rw [(o1.all q).non_iff]; exact hq⟩
  | isnot =>
    obtain ⟨c, hc, rfl⟩ := notO_some hz
    rcases cIs_some hc with ⟨c, d, rfl, rfl, rfl⟩ | ⟨rfl, q, rfl⟩
    · exact .inr ⟨c, d, o1.bl, o2.bl, by rw [← Bool.beq_eq_decide_eq]; exact hq⟩
    · exact .inl ⟨o2.non, by show Q (.bl (!decide (v = .non))) H; rw [(o1.all q).non_iff]; exact hq⟩

/-! ### items -/
theorem atI_some {α : Type} {xs : List α} {i : Int} {z : α} (h : L2.atI xs i = some z) : ∃ j, L2.ixN xs.length i = some j ∧ xs[j]? = some z := by
  unfold L2.atI at h
  cases e : L2.ixN xs.length i with
  | none => rw [e] at h; cases h
  | some j => rw [e] at h; exact ⟨j, rfl, h⟩
theorem atI_mk {α : Type} {xs : List α} {i : Int} {z : α} {j n : Nat} (hn : xs.length = n) (h : L2.ixN n i = some j) (h' : xs[j]? = some z) : L2.atI xs i = some z := by
  unfold L2.atI
  rw [hn, h]
  exact h'
theorem VRs.at {A : Addr → Prop} {xs : List Val} {vs : List V} {i : Int} (r : VRs K H A xs vs) (h : L2.atI xs i = some z) : ∃ v, L2.atI vs i = some v ∧ VR K H A z v := by
  obtain ⟨j, h1, h2⟩ := atI_some h
  obtain ⟨v, h3, h4⟩ := r.get h2
  exact ⟨v, atI_mk r.length h1 h3, h4⟩
theorem Sp3.get {P : Val → V → List Addr → Prop} : ∀ {xs : List Val} {vs : List V} {O : List Addr} {j : Nat} {z : Val}, Sp3 P xs vs O → xs[j]? = some z → ∃ v O1, vs[j]? = some v ∧ P z v O1 ∧ ∀ a ∈ O1, a ∈ O
  | [], _, _, _, _, _, e => by simp at e
  | x :: xs, _, _, 0, z, ⟨v, r, O1, O2, e1, e2, p, t⟩, e => by
    subst e1 e2
    simp at e; subst e
    exact ⟨v, O1, rfl, p, fun a h => List.mem_append_left _ h⟩
  | x :: xs, _, _, j + 1, z, ⟨v, r, O1, O2, e1, e2, p, t⟩, e => by
    subst e1 e2
    obtain ⟨w, O3, h1, h2, h3⟩ := Sp3.get (j := j) t (by simpa using e)
    exact ⟨w, O3, by simpa using h1, h2, fun a h => List.mem_append_right _ (h3 a h)⟩
theorem strOk_at {s : Str} {j : Nat} {c : Nat} (h : PyData.strOk s = true) (e : s.cps.toList[j]? = some c) : PyData.strOk ⟨#[c]⟩ = true := by
  unfold PyData.strOk at *
  have m : c ∈ s.cps := by
    have := List.mem_of_getElem? e
    simpa using this
  have q := Array.all_eq_true_iff_forall_mem.mp h c m
  simpa using q
theorem idx_ok (S : Stt K H G ks env σ O) (hu : u1 ≤ 3) (o1 : Opr K H G O u1 r1 x v) (o2 : Opr K H G O u2 r2 y w) (hz : idxV x y = some z) (hq : ∀ v, Opr K H G O (u1 - 1) r1 z v → Q v H) : rIx K v w H Q := by
  cases y <;> first | (have hz' : (none : Option Val) = some z := hz; cases hz'; done) | skip
  rename_i i
  have hw := o2.int
  subst hw
  cases x with
  | lst xs =>
    have hz : L2.atI xs i = some z := hz
    rcases o1 with ⟨Or, ⟨_, ⟨a, ns, e, _⟩, _⟩ | ⟨n3, h⟩, ho⟩ | ⟨a, vs, rfl, t, _, r⟩
    · cases e
    · cases u1 with
      | zero =>
        obtain ⟨⟨a, vs, rfl, t, _, r⟩, _⟩ := h
        obtain ⟨v', h1, h2⟩ := r.at hz
        exact .inl ⟨a, vs, i, v', rfl, rfl, SqL.of t, h1, hq v' (Opr.of h2)⟩
      | succ d =>
        rcases h with ⟨ys, a, vs, O', e, rfl, t, e4, r⟩ | ⟨nl, _, _⟩
        · cases e
          obtain ⟨j, h1, h2⟩ := atI_some hz
          obtain ⟨v', O1, h3, h4, h5⟩ := r.get h2
          refine .inl ⟨a, vs, i, v', rfl, rfl, SqL.of t, atI_mk r.length h1 h3, hq v' ?_⟩
          exact .inl ⟨O1, .inr ⟨by omega, h4⟩, fun b hb => ho b (by rw [e4]; exact List.mem_cons_of_mem _ (h5 b hb))⟩
        · exact absurd rfl (nl xs)
    · obtain ⟨v', h1, h2⟩ := r.at hz
      exact .inl ⟨a, vs, i, v', rfl, rfl, SqL.of t, h1, hq v' (Opr.of h2)⟩
  | tup xs =>
    have hz : L2.atI xs i = some z := hz
    obtain ⟨a, vs, rfl, t, r⟩ := o1.tup
    obtain ⟨v', h1, h2⟩ := r.at hz
    exact .inr (.inl ⟨a, vs, i, v', rfl, rfl, t.sqt, h1, hq v' (Opr.of h2)⟩)
  | str s =>
    have hz : idxS s i = some z := hz
    unfold idxS at hz
    split at hz
    · rename_i j hj
      split at hz
      · rename_i c hc
        cases hz
        obtain ⟨rfl, ok, ln⟩ := o1.str
        exact .inr (.inr ⟨s, i, c, rfl, rfl, lim_line ln, atI_mk rfl hj hc, hq _ (Opr.of ⟨rfl, strOk_at ok hc, rfl⟩)⟩)
      · cases hz
    · cases hz
  | _ => exact nomatch (show (none : Option Val) = some z from hz)

/-! ### slices -/
theorem VRs.cut {A : Addr → Prop} {xs : List Val} {vs : List V} (r : VRs K H A xs vs) (lo hi : Option Int) : VRs K H A (cutL xs lo hi) (cutV vs lo hi) := by
  unfold cutL cutV
  rw [r.length]
  exact (r.drop _).take _
def rSlc (K : PySem.W.Frag) : V → Option Int → Option Int → Hp → VK → Prop := fun x lo hi H Q => rSlL K x lo hi H Q ∨ rSlF K x lo hi H Q
theorem sl_slc {X : Cx} : SlR X (rSlc X.K) := sl_list.or sl_tupF
theorem slc_ok {lo hi : Option Int} (S : Stt K H G ks env σ O) (hu : u1 ≤ 1) (o1 : Opr K H G O u1 r1 x v) (hz : cutVal lo hi x = some z) (hq : Hands K H G ks O env σ z Q) : rSlc K v lo hi H Q := by
  cases x with
  | lst xs =>
    cases hz
    obtain ⟨a, vs, rfl, t, r⟩ := o1.lst hu
    exact .inl ⟨a, vs, rfl, SqL.of t, fun p hp => hq.lst S (r.cut lo hi) p hp⟩
  | tup xs =>
    cases hz
    obtain ⟨a, vs, rfl, t, r⟩ := o1.tup
    refine .inr ⟨a, vs, rfl, t.sqt, fun hw => ?_, fun _ => hq.tup S (r.cut lo hi)⟩
    have e : cutL xs lo hi = xs := by
      unfold cutL
      rw [← r.length, hw.1, hw.2, List.drop_zero, Nat.sub_zero, r.length, List.take_length]
    rw [e] at hq
    exact hq.same S ⟨a, vs, rfl, t, r⟩
  | _ => exact nomatch (show (none : Option Val) = some z from hz)

/-! ### built-ins -/
theorem ints_of : ∀ {xs : List Val} {ns : List Int}, intsV xs = some ns → xs = ns.map .int
  | [], ns, h => by cases h; rfl
  | x :: xs, ns, h => by
    cases x <;> first | (have h' : (none : Option (List Int)) = some ns := h; cases h'; done) | skip
    rename_i i
    have h : (intsV xs).map (i :: ·) = some ns := h
    cases e : intsV xs with
    | none => rw [e] at h; cases h
    | some l =>
      rw [e] at h
      cases h
      rw [ints_of e]
      rfl
theorem VRs.ints {A : Addr → Prop} : ∀ {ns : List Int} {vs : List V}, VRs K H A (ns.map .int) vs → vs = ns.map V.int
  | [], _, h => h
  | n :: ns, _, h => by
    obtain ⟨v, r, e, hv, t⟩ := h
    rw [e, show v = V.int n from hv, VRs.ints t]
    rfl
theorem VRs.ofInts {A : Addr → Prop} : ∀ {ns : List Int}, VRs K H A (ns.map .int) (ns.map V.int)
  | [] => rfl
  | n :: ns => ⟨.int n, _, rfl, rfl, VRs.ofInts⟩
theorem bools_of : ∀ {xs : List Val} {ns : List Bool}, bools xs = some ns → xs = ns.map .bl
  | [], ns, h => by cases h; rfl
  | x :: xs, ns, h => by
    cases x <;> first | (have h' : (none : Option (List Bool)) = some ns := h; cases h'; done) | skip
    rename_i i
    have h : (bools xs).map (i :: ·) = some ns := h
    cases e : bools xs with
    | none => rw [e] at h; cases h
    | some l =>
      rw [e] at h
      cases h
      rw [bools_of e]
      rfl
theorem VRs.bools {A : Addr → Prop} : ∀ {ns : List Bool} {vs : List V}, VRs K H A (ns.map .bl) vs → vs = ns.map V.bl
  | [], _, h => h
  | n :: ns, _, h => by
    obtain ⟨v, r, e, hv, t⟩ := h
    rw [e, show v = V.bl n from hv, VRs.bools t]
    rfl
theorem insI_perm (x : Int) : ∀ l : List Int, (insI x l).Perm (x :: l)
  | [] => .refl _
  | y :: ys => by
    unfold insI
    split
    · exact .refl _
    · exact ((insI_perm x ys).cons y).trans (List.Perm.swap x y ys)
theorem sortI_perm : ∀ l : List Int, (sortI l).Perm l
  | [] => .refl _
  | x :: xs => by
    unfold sortI
    exact (insI_perm x _).trans ((sortI_perm xs).cons x)
theorem insI_sorted (x : Int) : ∀ {l : List Int}, l.Pairwise (· ≤ ·) → (insI x l).Pairwise (· ≤ ·)
  | [], _ => by simp [insI]
  | y :: ys, h => by
    unfold insI
    rw [List.pairwise_cons] at h
    split
    · rename_i q
      rw [List.pairwise_cons, List.pairwise_cons]
      refine ⟨fun z hz => ?_, h⟩
      rcases List.mem_cons.mp hz with e | e
      · rw [e]; exact q
      · exact Int.le_trans q (h.1 z e)
    · rename_i q
      rw [List.pairwise_cons]
      refine ⟨fun z hz => ?_, insI_sorted x h.2⟩
      rcases List.mem_cons.mp ((insI_perm x ys).mem_iff.mp hz) with e | e
      · rw [e]; omega
      · exact h.1 z e
theorem sortI_sorted : ∀ l : List Int, (sortI l).Pairwise (· ≤ ·)
  | [] => .nil
  | x :: xs => by
    unfold sortI
    exact insI_sorted x (sortI_sorted xs)
theorem sortI_of {l l' : List Int} (p : l'.Perm l) (s : l'.Pairwise (· ≤ ·)) : l' = sortI l :=
  List.Perm.eq_of_pairwise (fun _ _ _ _ h1 h2 => Int.le_antisymm h1 h2) s (sortI_sorted l) (p.trans (sortI_perm l).symm)
theorem minI_fold : ∀ (l : List Int) (a : Int), (l.foldl (fun m y => if y < m then y else m) a = a ∨ l.foldl (fun m y => if y < m then y else m) a ∈ l) ∧ l.foldl (fun m y => if y < m then y else m) a ≤ a ∧ ∀ y ∈ l, l.foldl (fun m y => if y < m then y else m) a ≤ y
  | [], a => ⟨.inl rfl, Int.le_refl _, fun _ h => nomatch h⟩
  | x :: xs, a => by
    rw [List.foldl_cons]
    obtain ⟨h1, h2, h3⟩ := minI_fold xs (if x < a then x else a)
    refine ⟨?_, ?_, fun y hy => ?_⟩
    · rcases h1 with h1 | h1
      · rw [h1]
        split
        · exact .inr List.mem_cons_self
        · exact .inl rfl
      · exact .inr (List.mem_cons_of_mem _ h1)
    · split at h2 <;> split <;> omega
    · rcases List.mem_cons.mp hy with e | e
      · subst e
        split at h2 <;> split <;> omega
      · exact h3 y e
theorem minI_of {l : List Int} {m n : Int} (h : minI l = some n) (hm : m ∈ l) (hle : ∀ y, y ∈ l → m ≤ y) : m = n := by
  cases l with
  | nil => cases h
  | cons a r =>
    cases h
    obtain ⟨h1, h2, h3⟩ := minI_fold r a
    refine Int.le_antisymm ?_ ?_
    · rcases h1 with h1 | h1
      · rw [h1]; exact hle a List.mem_cons_self
      · exact hle _ (List.mem_cons_of_mem _ h1)
    · rcases List.mem_cons.mp hm with e | e
      · rw [e]; exact h2
      · exact h3 m e
theorem maxI_fold : ∀ (l : List Int) (a : Int), (l.foldl (fun m y => if m < y then y else m) a = a ∨ l.foldl (fun m y => if m < y then y else m) a ∈ l) ∧ a ≤ l.foldl (fun m y => if m < y then y else m) a ∧ ∀ y ∈ l, y ≤ l.foldl (fun m y => if m < y then y else m) a
  | [], a => ⟨.inl rfl, Int.le_refl _, fun _ h => nomatch h⟩
  | x :: xs, a => by
    rw [List.foldl_cons]
    obtain ⟨h1, h2, h3⟩ := maxI_fold xs (if a < x then x else a)
    refine ⟨?_, ?_, fun y hy => ?_⟩
    · rcases h1 with h1 | h1
      · rw [h1]
        split
        · exact .inr List.mem_cons_self
        · exact .inl rfl
      · exact .inr (List.mem_cons_of_mem _ h1)
    · split at h2 <;> split <;> omega
    · rcases List.mem_cons.mp hy with e | e
      · subst e
        split at h2 <;> split <;> omega
      · exact h3 y e
theorem maxI_of {l : List Int} {m n : Int} (h : maxI l = some n) (hm : m ∈ l) (hle : ∀ y, y ∈ l → y ≤ m) : m = n := by
  cases l with
  | nil => cases h
  | cons a r =>
    cases h
    obtain ⟨h1, h2, h3⟩ := maxI_fold r a
    refine Int.le_antisymm ?_ ?_
    · rcases List.mem_cons.mp hm with e | e
      · rw [e]; exact h2
      · exact h3 m e
    · rcases h1 with h1 | h1
      · rw [h1]; exact hle a List.mem_cons_self
      · exact hle _ (List.mem_cons_of_mem _ h1)
end
def rLen (K : PySem.W.Frag) : List V → Hp → VK → Prop := fun xs H Q => (∃ p ys, xs = [.ref p] ∧ (SqL K H p ys ∨ SqT K H p ys) ∧ Q (.int ys.length) H) ∨ ∃ z, xs = [.str z] ∧ z.length ≤ sizeLine ∧ Q (.int z.length) H
def rLst (K : PySem.W.Frag) : List V → Hp → VK → Prop := fun xs H Q => ∃ p ys, xs = [.ref p] ∧ (SqL K H p ys ∨ SqT K H p ys) ∧ ∀ l, H l = none → Q (.ref l) (upd H l (.lst ys))
def rMinA (K : PySem.W.Frag) : List V → Hp → VK → Prop := fun xs H Q => (∃ i j, xs = [.int i, .int j] ∧ Q (.int (if j < i then j else i)) H) ∨ rMin K xs H Q
def rMaxA (K : PySem.W.Frag) : List V → Hp → VK → Prop := fun xs H Q => (∃ i j, xs = [.int i, .int j] ∧ Q (.int (if j > i then j else i)) H) ∨ rMax K xs H Q
def rAbs : List V → Hp → VK → Prop := fun xs H Q => ∃ i, xs = [.int i] ∧ Q (.int (if i < 0 then -i else i)) H
def rInt : List V → Hp → VK → Prop := fun xs H Q => (∃ i, xs = [.int i] ∧ Q (.int i) H) ∨ ∃ k, xs = [.bl k] ∧ Q (.int (if k then 1 else 0)) H
def rBi (K : PySem.W.Frag) : Bi → List V → Hp → VK → Prop
  | .len => rLen K
  | .tuple => rTupF K
  | .list => rLst K
  | .sorted => fun vs H Q => rSortedU K vs H Q ∨ rSortRows K vs H Q
  | .sum => rSum K
  | .min => rMinA K
  | .max => rMaxA K
  | .abs => rAbs
  | .int => rInt
  | .all => rAll K
  | .any => rAny K
  | .str => fun _ _ _ => False
  | .isinst _ => fun _ _ _ => False
  | .rg _ => fun _ _ _ => False
  | .st _ => fun _ _ _ => False
def biVal : Bi → Value
  | .tuple => .type "tuple"
  | .list => .type "list"
  | .int => .type "int"
  | .str => .type "str"
  | .len => .builtin "len"
  | .sorted => .builtin "sorted"
  | .sum => .builtin "sum"
  | .min => .builtin "min"
  | .max => .builtin "max"
  | .abs => .builtin "abs"
  | .all => .builtin "all"
  | .any => .builtin "any"
  | .isinst _ => .builtin "isinstance"
  | .rg t => cond t (.type "tuple") (.type "list")
  | .st t => cond t (.builtin "len") (.builtin "sorted")
theorem call_bi {X : Cx} (hc : X.calm = true) (hu : X.A.units + 191 < cLine) : ∀ b : Bi, CallR X (biVal b) (rBi X.K b)
  | .len => call_len_seq.or call_len_str
  | .tuple => call_tupleF
  | .list => call_list_of
  | .sorted => cr_sortedU.or (cr_sortRows hu)
  | .sum => cr_sum hc
  | .min => (call_min2 hc).or (cr_min hc)
  | .max => (call_max2 hc).or (cr_max hc)
  | .abs => call_abs
  | .int => call_int1
  | .all => cr_all hc
  | .any => cr_any hc
  | .str => fun _ _ _ _ _ _ _ _ _ h => h.elim
  | .isinst _ => fun _ _ _ _ _ _ _ _ _ h => h.elim
  | .rg _ => fun _ _ _ _ _ _ _ _ _ h => h.elim
  | .st _ => fun _ _ _ _ _ _ _ _ _ h => h.elim
end Mp
set_option Elab.async false
set_option linter.all false
set_option maxRecDepth 10000
/-! # Mp: built-ins called. -/
namespace Mp
open PySem PySem.Spec PyProof.Rows L2
theorem on1_some {f : Val → Option Val} {xs : List Val} {z : Val} (h : on1 f xs = some z) : ∃ x, xs = [x] ∧ f x = some z := by
  cases xs with
  | nil => cases h
  | cons x r =>
    cases r with
    | nil => exact ⟨x, rfl, h⟩
    | cons y r => cases h
theorem omap_eq {α β : Type} {f : α → β} {o : Option α} {z : β} (h : omap f o = some z) : ∃ a, o = some a ∧ z = f a := by
  cases o with
  | none => cases h
  | some a => cases h; exact ⟨a, rfl, rfl⟩
theorem obind_eq {α β : Type} {f : α → Option β} {o : Option α} {z : β} (h : obind o f = some z) : ∃ a, o = some a ∧ f a = some z := by
  cases o with
  | none => cases h
  | some a => exact ⟨a, rfl, h⟩
def noIos : List E → Bool
  | [] => true
  | e :: es => !isIo e && noIos es
theorem isIoOf_none {e : E} (h : isIo e = false) : isIoOf e = none := by
  cases e <;> first | rfl | cases h
theorem wfL_noIos {T : Tab} {ks : List Nat} : ∀ {es : List E}, wfL T ks es = true → noIos es = true
  | [], _ => rfl
  | e :: es, h => by
    unfold wfL at h
    obtain ⟨h1, h2⟩ := Bool.and_eq_true_iff.mp h
    unfold noIos
    rw [wfL_noIos h2, Bool.and_true]
    cases e <;> first | rfl | (unfold wfE at h1; cases h1)
section
variable {K : PySem.W.Frag} {H : Hp} {G : Addr → Prop} {ks : List Nat} {O : Own} {env : Env} {σ : L2.St} {Q : VK}
theorem Oprs.length : ∀ {es : List E} {xs : List Val} {vs : List V}, Oprs K H G ks O σ es xs vs → xs.length = es.length ∧ vs.length = es.length
  | [], _, _, ⟨h1, h2⟩ => by rw [h1, h2]; exact ⟨rfl, rfl⟩
  | e :: es, _, _, ⟨x, xr, v, vr, h1, h2, _, t⟩ => by
    obtain ⟨q1, q2⟩ := Oprs.length t
    rw [h1, h2]
    simp [q1, q2]
theorem Oprs.one {es : List E} {x : Val} {vs : List V} (hn : noIos es = true) (h : Oprs K H G ks O σ es [x] vs) : ∃ e v, es = [e] ∧ vs = [v] ∧ Opr K H G O (ud ks e) (root e) x v := by
  cases es with
  | nil => cases h.1
  | cons e er =>
    obtain ⟨x', xr, v, vr, h1, h2, h3, t⟩ := h
    cases h1
    cases er with
    | nil =>
      obtain ⟨_, q2⟩ := t
      subst q2
      unfold noIos at hn
      have := (Bool.and_eq_true_iff.mp hn).1
      rw [isIoOf_none (by simpa using this)] at h3
      exact ⟨e, v, rfl, h2, h3⟩
    | cons e2 er2 =>
      obtain ⟨_, _, _, _, q, _⟩ := t
      cases q
theorem Oprs.two {es : List E} {x y : Val} {vs : List V} (hn : noIos es = true) (h : Oprs K H G ks O σ es [x, y] vs) : ∃ e f v w, es = [e, f] ∧ vs = [v, w] ∧ Opr K H G O (ud ks e) (root e) x v ∧ Opr K H G O (ud ks f) (root f) y w := by
  cases es with
  | nil => cases h.1
  | cons e er =>
    obtain ⟨x', xr, v, vr, h1, h2, h3, t⟩ := h
    cases h1
    unfold noIos at hn
    obtain ⟨hn1, hn2⟩ := Bool.and_eq_true_iff.mp hn
    rw [isIoOf_none (by simpa using hn1)] at h3
    obtain ⟨f, w, e1, e2, h4⟩ := Oprs.one hn2 t
    subst e1 e2
    exact ⟨e, f, v, w, rfl, h2, h3, h4⟩
/-- safe arguments are values -/
theorem Oprs.vrs : ∀ {es : List E} {xs : List Val} {vs : List V}, noIos es = true → safeL ks es = true → Oprs K H G ks O σ es xs vs → VRs K H (AA G O) xs vs
  | [], _, _, _, _, ⟨h1, h2⟩ => by rw [h1, h2]; rfl
  | e :: es, _, _, hn, hs, ⟨x, xr, v, vr, h1, h2, h3, t⟩ => by
    unfold noIos at hn
    obtain ⟨hn1, hn2⟩ := Bool.and_eq_true_iff.mp hn
    unfold safeL safe at hs
    obtain ⟨hs1, hs2⟩ := Bool.and_eq_true_iff.mp hs
    rw [isIoOf_none (by simpa using hn1), Nat.eq_of_beq_eq_true hs1] at h3
    subst h1
    subst h2
    exact ⟨v, vr, rfl, h3.vr, Oprs.vrs hn2 hs2 t⟩
theorem flat1 {e : E} (h : flatL ks [e] = true) : ud ks e ≤ 1 := by
  unfold flatL flatE at h
  exact Nat.le_of_ble_eq_true (Bool.and_eq_true_iff.mp h).1
theorem lstOf_some {x : Val} {ys : List Val} (h : lstOf x = some ys) : x = .lst ys := by
  cases x <;> first | (have h' : (none : Option (List Val)) = some ys := h; cases h'; done) | skip
  cases h; rfl
theorem seqOf_some {x : Val} {ys : List Val} (h : seqOf x = some ys) : x = .lst ys ∨ x = .tup ys := by
  cases x <;> first | (have h' : (none : Option (List Val)) = some ys := h; cases h'; done) | skip
  · cases h; exact .inr rfl
  · cases h; exact .inl rfl
theorem bi_ok {b : Bi} {es : List E} {xs : List Val} {vs : List V} {z : Val} (S : Stt K H G ks env σ O) (hn : noIos es = true) (hf : flatL ks es = true ∨ (b = .list ∧ ∃ a, es = [a] ∧ ud ks a = 3)) (o : Oprs K H G ks O σ es xs vs)
    (hi : ∀ t, b ≠ .isinst t) (hr : ∀ t, b ≠ .rg t) (hs : ∀ t, b ≠ .st t) (hz : bifn b xs = some z) (hq : Hands K H G ks O env σ z Q) : rBi K b vs H Q := by
  have flat : ∀ {e : E}, b ≠ .list → es = [e] → ud ks e ≤ 1 := fun nb he => by
    rcases hf with hf | ⟨hb, _⟩
    · rw [he] at hf; exact flat1 hf
    · exact absurd hb nb
  cases b with
  | len =>
    obtain ⟨x, rfl, hz⟩ := on1_some hz
    obtain ⟨e, v, rfl, rfl, o1⟩ := o.one hn
    cases x <;> first | (have h' : (none : Option Val) = some z := hz; cases h'; done) | skip
    · cases hz
      obtain ⟨rfl, ok, ln⟩ := o1.str
      exact .inr ⟨_, rfl, lim_line ln, hq.same S rfl⟩
    · cases hz
      obtain ⟨a, ws, rfl, t, r⟩ := o1.tup
      rename_i ys
      exact .inl ⟨a, ws, rfl, .inr t.sqt, hq.same S (show V.int ws.length = V.int ys.length by rw [r.length])⟩
    · cases hz
      obtain ⟨a, ws, rfl, t, r⟩ := o1.lstAny
      rename_i ys
      exact .inl ⟨a, ws, rfl, .inl (SqL.of t), hq.same S (show V.int ws.length = V.int ys.length by rw [r])⟩
    · exact (o1.dct).elim
  | tuple =>
    obtain ⟨x, rfl, hz⟩ := on1_some hz
    obtain ⟨e, v, rfl, rfl, o1⟩ := o.one hn
    obtain ⟨ys, h1, rfl⟩ := omap_eq hz
    rcases seqOf_some h1 with rfl | rfl
    · obtain ⟨a, ws, rfl, t, r⟩ := o1.lst (flat (by decide) rfl)
      exact ⟨a, ws, rfl, .inl ⟨SqL.of t, hq.tup S r⟩⟩
    · obtain ⟨a, ws, rfl, t, r⟩ := o1.tup
      exact ⟨a, ws, rfl, .inr ⟨t.sqt, hq.same S ⟨a, ws, rfl, t, r⟩⟩⟩
  | list =>
    obtain ⟨x, rfl, hz⟩ := on1_some hz
    obtain ⟨e, v, rfl, rfl, o1⟩ := o.one hn
    obtain ⟨ys, h1, rfl⟩ := omap_eq hz
    cases x <;> first | (have h' : (none : Option (List Val)) = some ys := h1; cases h'; done) | skip
    · cases h1
      obtain ⟨a, ws, rfl, t, r⟩ := o1.tup
      exact ⟨a, ws, rfl, .inr t.sqt, fun p hp => hq.lst S r p hp⟩
    · cases h1
      rcases hf with hf | ⟨_, a, ha, h3⟩
      · obtain ⟨a, ws, rfl, t, r⟩ := o1.lst (flat1 hf)
        exact ⟨a, ws, rfl, .inl (SqL.of t), fun p hp => hq.lst S r p hp⟩
      · cases ha
        rw [h3] at o1
        rcases o1 with ⟨Or, ⟨_, ⟨_, _, e, _⟩, _⟩ | ⟨q, _⟩, _⟩ | ⟨a, ws, rfl, t, _, r⟩
        · cases e
        · exact absurd rfl q
        · exact ⟨a, ws, rfl, .inl (SqL.of t), fun p hp => hq.lst S r p hp⟩
    · obtain ⟨_, a, ns, e, rfl, t⟩ := o1.opq
      injection e with e1 e2
      subst e1
      subst e2
      cases h1
      exact ⟨a, _, rfl, .inl t.sql, fun p hp => hq.lst S VRs.ofInts p hp⟩
  | sorted =>
    obtain ⟨x, rfl, hz⟩ := on1_some hz
    obtain ⟨e, v, rfl, rfl, o1⟩ := o.one hn
    have hz : sortX x = some z := hz
    unfold sortX at hz
    split at hz
    · rename_i ns h1
      cases hz
      obtain ⟨ys, h2, h3⟩ := obind_eq h1
      have hy := ints_of h3
      subst hy
      rcases seqOf_some h2 with hx | hx
      · subst hx
        obtain ⟨a, ws, rfl, t, r⟩ := o1.lst (flat (by decide) rfl)
        have hw := r.ints
        subst hw
        refine .inl ⟨a, ns, rfl, .inl (SqL.of t), fun ns' p hp hs hpn => ?_⟩
        rw [sortI_of hp hs]
        exact hq.lst S VRs.ofInts p hpn
      · subst hx
        obtain ⟨a, ws, rfl, t, r⟩ := o1.tup
        have hw := r.ints
        subst hw
        refine .inl ⟨a, ns, rfl, .inr t.sqt, fun ns' p hp hs hpn => ?_⟩
        rw [sortI_of hp hs]
        exact hq.lst S VRs.ofInts p hpn
    · cases x <;> first | (have h' : (none : Option Val) = some z := hz; cases h'; done) | skip
      rename_i ys _ _ _
      have hz : (rowsV ys).map (fun L => Val.lst ((sortR L).map rowT)) = some z := hz
      cases hL : rowsV ys with
      | none => rw [hL] at hz; cases hz
      | some L =>
        rw [hL] at hz
        cases hz
        obtain ⟨e1, e2⟩ := rowsV_some hL
        subst e1
        obtain ⟨a, ws, rfl, t, r⟩ := o1.lst (flat (by decide) rfl)
        obtain ⟨bs, b1, b2, b3⟩ := rows_dp r e2
        subst b1 b2
        have hv := vrs_rows (bs := bs.mergeSort fun p q => rowLe p.2 q.2) fun b hb => (b3 b ((List.mergeSort_perm _ _).mem_iff.mp hb)).2
        rw [mergeSort_rows] at hv
        have hq : Hands K H G ks O env σ (.lst ((sortR (bs.map (·.2))).map rowT)) Q := hq
        exact .inr ⟨a, bs, rfl, SqL.of t, fun b hb => (b3 b hb).1, fun p hp => hq.lst S hv p hp⟩
  | sum =>
    obtain ⟨x, rfl, hz⟩ := on1_some hz
    obtain ⟨e, v, rfl, rfl, o1⟩ := o.one hn
    obtain ⟨ns, h1, rfl⟩ := omap_eq hz
    obtain ⟨ys, h2, h3⟩ := obind_eq h1
    have hx := lstOf_some h2
    subst hx
    have hy := ints_of h3
    subst hy
    obtain ⟨a, ws, rfl, t, r⟩ := o1.lst (flat (by decide) rfl)
    have hw := r.ints
    subst hw
    exact ⟨a, ns, rfl, SqL.of t, hq.same S rfl⟩
  | min =>
    have hz : minV xs = some z := hz
    match xs, hz, o with
    | [x], hz, o =>
      obtain ⟨e, v, rfl, rfl, o1⟩ := o.one hn
      have hz : omap Val.int (obind (obind (lstOf x) intsV) minI) = some z := hz
      obtain ⟨m, h1, rfl⟩ := omap_eq hz
      obtain ⟨ns, h2, h3⟩ := obind_eq h1
      obtain ⟨ys, h4, h5⟩ := obind_eq h2
      have hx := lstOf_some h4
      subst hx
      have hy := ints_of h5
      subst hy
      obtain ⟨a, ws, rfl, t, r⟩ := o1.lst (flat (by decide) rfl)
      have hw := r.ints
      subst hw
      refine .inr ⟨a, ns, rfl, SqL.of t, ?_, fun n hn hle => ?_⟩
      · cases ns with
        | nil => cases h3
        | cons _ _ => exact Nat.succ_pos _
      · rw [minI_of h3 hn hle]
        exact hq.same S rfl
    | [.int i, .int j], hz, o =>
      obtain ⟨e, f, v, w, rfl, rfl, o1, o2⟩ := o.two hn
      have hz : some (Val.int (if j < i then j else i)) = some z := hz
      cases hz
      exact .inl ⟨i, j, by rw [o1.int, o2.int], hq.same S rfl⟩
  | max =>
    have hz : maxV xs = some z := hz
    match xs, hz, o with
    | [x], hz, o =>
      obtain ⟨e, v, rfl, rfl, o1⟩ := o.one hn
      have hz : omap Val.int (obind (obind (lstOf x) intsV) maxI) = some z := hz
      obtain ⟨m, h1, rfl⟩ := omap_eq hz
      obtain ⟨ns, h2, h3⟩ := obind_eq h1
      obtain ⟨ys, h4, h5⟩ := obind_eq h2
      have hx := lstOf_some h4
      subst hx
      have hy := ints_of h5
      subst hy
      obtain ⟨a, ws, rfl, t, r⟩ := o1.lst (flat (by decide) rfl)
      have hw := r.ints
      subst hw
      refine .inr ⟨a, ns, rfl, SqL.of t, ?_, fun n hn hle => ?_⟩
      · cases ns with
        | nil => cases h3
        | cons _ _ => exact Nat.succ_pos _
      · rw [maxI_of h3 hn hle]
        exact hq.same S rfl
    | [.int i, .int j], hz, o =>
      obtain ⟨e, f, v, w, rfl, rfl, o1, o2⟩ := o.two hn
      have hz : some (Val.int (if j > i then j else i)) = some z := hz
      cases hz
      exact .inl ⟨i, j, by rw [o1.int, o2.int], hq.same S rfl⟩
  | abs =>
    obtain ⟨x, rfl, hz⟩ := on1_some hz
    obtain ⟨e, v, rfl, rfl, o1⟩ := o.one hn
    cases x <;> first | (have h' : (none : Option Val) = some z := hz; cases h'; done) | skip
    cases hz
    exact ⟨_, by rw [o1.int], hq.same S rfl⟩
  | int =>
    obtain ⟨x, rfl, hz⟩ := on1_some hz
    obtain ⟨e, v, rfl, rfl, o1⟩ := o.one hn
    cases x <;> first | (have h' : (none : Option Val) = some z := hz; cases h'; done) | skip
    cases hz
    exact .inl ⟨_, by rw [o1.int], hq.same S rfl⟩
  | all =>
    obtain ⟨x, rfl, hz⟩ := on1_some hz
    obtain ⟨e, v, rfl, rfl, o1⟩ := o.one hn
    obtain ⟨ns, h1, rfl⟩ := omap_eq hz
    obtain ⟨ys, h2, h3⟩ := obind_eq h1
    have hx := lstOf_some h2
    subst hx
    have hy := bools_of h3
    subst hy
    obtain ⟨a, ws, rfl, t, r⟩ := o1.lst (flat (by decide) rfl)
    have hw := r.bools
    subst hw
    exact ⟨a, ns, rfl, SqL.of t, hq.same S rfl⟩
  | any =>
    obtain ⟨x, rfl, hz⟩ := on1_some hz
    obtain ⟨e, v, rfl, rfl, o1⟩ := o.one hn
    obtain ⟨ns, h1, rfl⟩ := omap_eq hz
    obtain ⟨ys, h2, h3⟩ := obind_eq h1
    have hx := lstOf_some h2
    subst hx
    have hy := bools_of h3
    subst hy
    obtain ⟨a, ws, rfl, t, r⟩ := o1.lst (flat (by decide) rfl)
    have hw := r.bools
    subst hw
    exact ⟨a, ns, rfl, SqL.of t, hq.same S rfl⟩
  | str => exact nomatch (show (none : Option Val) = some z from hz)
  | isinst t => exact absurd rfl (hi t)
  | rg t => exact absurd rfl (hr t)
  | st t => exact absurd rfl (hs t)

/-! ### isinstance -/
def tyStr : Ty → String
  | .int => "int"
  | .bool => "bool"
  | .str => "str"
  | .tuple => "tuple"
  | .list => "list"
def knStr : Nat → String
  | 0 => "int"
  | 1 => "bool"
  | 2 => "str"
  | 3 => "tuple"
  | 4 => "list"
  | _ => "NoneType"
theorem kit_tab (t : Ty) (k : Nat) (hk : k ≤ 5) : kitB (knStr k) (tyStr t) = some (tyOk t k) := by
  match k, hk with
  | 0, _ => cases t <;> decide +kernel
  | 1, _ => cases t <;> decide +kernel
  | 2, _ => cases t <;> decide +kernel
  | 3, _ => cases t <;> decide +kernel
  | 4, _ => cases t <;> decide +kernel
  | 5, _ => cases t <;> decide +kernel
theorem tyx_of {u r : Nat} {x : Val} {v : V} (o : Opr K H G O u r x v) (h : kindOf x ≤ 5) : TyX K H v (.type (knStr (kindOf x))) := by
  cases x with
  | non => rw [o.non]; exact .base .non
  | bl b => rw [o.bl]; exact .base (.bl b)
  | int i => rw [o.int]; exact .base (.int i)
  | str s => rw [o.str.1]; exact .base (.str s)
  | tup xs =>
    obtain ⟨a, vs, rfl, t, _⟩ := o.tup
    rcases t with ⟨ob, t, _⟩ | ⟨ob, its, n, t, c, _⟩
    · exact .fTuple t
    · exact .kTuple t c
  | lst xs =>
    obtain ⟨a, vs, rfl, t, _⟩ := o.lstAny
    exact .base (.lst t)
  | undef => exact absurd h (show ¬ (9 ≤ 5) by decide)
  | dct _ _ => exact absurd h (show ¬ (9 ≤ 5) by decide)
  | opq _ _ => exact absurd h (show ¬ (9 ≤ 5) by decide)
theorem isTy_some {t : Ty} {x : Val} {b : Bool} (h : isTy t x = some b) : kindOf x ≤ 5 ∧ b = tyOk t (kindOf x) := by
  unfold isTy at h
  cases e : Nat.ble (kindOf x) 5 with
  | false => rw [e] at h; cases h
  | true =>
    rw [e] at h
    cases h
    exact ⟨Nat.le_of_ble_eq_true e, rfl⟩
end
end Mp
set_option Elab.async false
set_option linter.all false
set_option maxRecDepth 10000
/-! # Mp: the context; plain expressions. -/
namespace Mp
open PySem PySem.Spec PyProof.Rows L2

/-- the slots that are handed back -/
def ioS : List Nat → Nat → List Nat
  | [], _ => []
  | 0 :: kr, n => ioS kr (n + 1)
  | (_ + 1) :: kr, n => n :: ioS kr (n + 1)
/-- .. alone, as slots -/
def outEnv : List Nat → List Val → Env
  | [], _ => []
  | 0 :: kr, outs => .undef :: outEnv kr outs
  | (_ + 1) :: kr, [] => .undef :: outEnv kr []
  | (_ + 1) :: kr, v :: r => v :: outEnv kr r
def GooC (P : Par) (fn : Fn) (H : Hp) (G : Addr → Prop) (O : Own) (vs : List V) (Q : VK) (E : XK) : RC → Prop
  | .ok v outs => ∀ H' O' w, Pst P.K H G fn.kd O (ioS fn.kd 0) (outEnv fn.kd outs) (vs.map some) H' O' → NewV P.K H H' G fn.kd (outEnv fn.kd outs) (vs.map some) O' fn.fr v w → Q w H'
  | .exc x outs => ∀ H' O' cls d, Pst P.K H G fn.kd O (ioS fn.kd 0) (outEnv fn.kd outs) (vs.map some) H' O' → P.XR H' x cls d → E cls d H'
  | .bad => False
/-- what a def promises -/
def spF (P : Par) (f : Nat) (fn : Fn) : Sp := fun vs H Q E => ∃ (args : List Val) (G : Addr → Prop) (O : Own), vs.length = fn.np ∧ args.length = fn.np ∧ (∀ i, i < fn.np → gt args i ≠ .undef) ∧
  Stt P.K H G fn.kd args (vs.map some) O ∧ GooC P fn H G O vs Q E (P.C f args)
/-- where an expression stands -/
structure Ctx (T : Tab) (N : List Str) (k : Nat) (X : Cx) (P : Par) (s : Sx) : Prop where
  hN : X.N = N
  nd : N.Nodup
  sc : X.env.scope = s.sc
  fn : ∀ x, s.fn x = true → X.fn x = true
  calm : X.calm = true
  room : Room k X.A
  tk : Takes X P.W
  K : X.K = P.K
  C : P.C = callF T.P k
  cst : ∀ x v, T.consts.lookup x = some v → ∃ w u, X.mg x = some u ∧ RelV w u ∧ ∀ H A, VR X.K H A v w
  blt : ∀ x, T.blts.contains x = true → X.mg x = none
  fns : ∀ f fn, fnAt T.P f = some fn → ∃ a fd ps, X.mg fn.name = some (.ref a) ∧ PySem.W.keepIn X.K (.ref a) = true ∧ Binds X.K fd ps [] ∧ FnOk X.prog X.w X.K X.mg X.base (L2.CX X.prog X.w) k a fd ps (spF P f fn)

/-- a value d deep new -/
def rdF (P : Par) (ks : List Nat) (e : E) (d : Nat) : TE := fun σ H Q => ∃ G O env, Stt P.K H G ks env σ O ∧
  Goo P σ H G ks O (muts e) (fun x e' H' O' => ∀ v, NewV P.K H H' G ks e' σ O' d x v → Q v H') (ev P.C e env)
def isBoolOp : Expr → Bool
  | .BoolOp _ _ _ => true
  | _ => false
/-- an expression is what it computes -/
structure Sd (T : Tab) (X : Cx) (P : Par) (ks : List Nat) (m : E) (e : Expr) : Prop where
  pe : PE X e (rdP P ks m)
  pt : PT X e (rdT P ks m)
  pw : isBoolOp e = true → PW X e (rdT P ks m)
  pf : ∀ d, 1 ≤ d → d ≤ fr T ks m → PE X e (rdF P ks m d)
def Snd (T : Tab) (N : List Str) (k : Nat) (m : E) : Prop := ∀ (X : Cx) (P : Par) (s : Sx) (ks : List Nat) (e : Expr), Ctx T N k X P s → chkE T N m s e = true → wfE T ks m = true → Sd T X P ks m e
/-- .. arguments: io arguments among them -/
def SndL (T : Tab) (N : List Str) (k : Nat) (ms : List E) : Prop := ∀ (X : Cx) (P : Par) (s : Sx) (ks : List Nat) (es : List Expr), Ctx T N k X P s → chkL T N ms s es = true → wfA T ks ms = true → seqL ks ms = true → PA X es (rdA P ks ms)
theorem not_bool {e : Expr} {p : Prop} (h : isBoolOp e = false) : isBoolOp e = true → p := fun q => by rw [h] at q; cases q

section
variable {T : Tab} {N : List Str} {k : Nat} {X : Cx} {P : Par} {s : Sx} {ks : List Nat} {e : Expr} {m : E}
theorem pt_of (h : PE X e (rdP P ks m)) (he : ∀ whole, isTrue e X.env whole = (do let v ← whole; standAt e.pos; holding [v] (truthy v))) : PT X e (rdT P ks m) := (pt_val h he).imp fun σ H Q q => rdT_val q
/-- the new value is a value -/
theorem pe_ofF {d : Nat} (h : PE X e (rdF P ks m d)) : PE X e (rdP P ks m) := h.imp fun σ H Q ⟨G, O, env, S, g⟩ => ⟨G, O, env, S, by
  cases q : ev P.C m env with
  | ok x e1 =>
    rw [q] at g
    exact fun H' O' p v n => g H' O' p v (Opr.of n.vr)
  | exc x e1 =>
    rw [q] at g
    exact g
  | bad =>
    rw [q] at g
    exact g⟩
/-- a safe value is as it is -/
theorem pe_of0 (h : PE X e (rdP P ks m)) (hs : safe ks m = true) : PE X e (rdF P ks m 0) := h.imp fun σ H Q ⟨G, O, env, S, g⟩ => ⟨G, O, env, S, by
  have hu : ud ks m = 0 := Nat.eq_of_beq_eq_true hs
  cases q : ev P.C m env with
  | ok x e1 =>
    rw [q] at g
    intro H' O' p v o
    rw [hu] at o
    exact g H' O' p v (NewV.of0 p.st o.vr)
  | exc x e1 =>
    rw [q] at g
    exact g
  | bad =>
    rw [q] at g
    exact g⟩
theorem Sd.of (pe : PE X e (rdP P ks m)) (he : ∀ whole, isTrue e X.env whole = (do let v ← whole; standAt e.pos; holding [v] (truthy v))) (hb : isBoolOp e = false) (hf : fr T ks m = 0) : Sd T X P ks m e :=
  ⟨pe, pt_of pe he, not_bool hb, fun d h1 h2 => by omega⟩
theorem Sd.ofF (pe : PE X e (rdF P ks m 1)) (he : ∀ whole, isTrue e X.env whole = (do let v ← whole; standAt e.pos; holding [v] (truthy v))) (hb : isBoolOp e = false) (hf : fr T ks m = 1) : Sd T X P ks m e :=
  ⟨pe_ofF pe, pt_of (pe_ofF pe) he, not_bool hb, fun d h1 h2 => by
    have e : d = 1 := by omega
    subst e
    exact pe⟩

/-! ### constants -/
theorem snd_c {v : V} {x : Val} (pe : PE X e (tC v)) (hx : ∀ env, ev P.C m env = .ok x env) (hv : ∀ H A, VR P.K H A x v) (hv' : ∀ H G O u r w, Opr P.K H G O u r x w → w = v) (nl : ∀ xs, x ≠ .lst xs)
    (he : ∀ whole, isTrue e X.env whole = (do let v ← whole; standAt e.pos; holding [v] (truthy v))) (hb : isBoolOp e = false) : Sd T X P ks m e := by
  have key : PE X e (rdP P ks m) := pe.imp fun σ H Q ⟨G, O, env, S, g⟩ => by
    rw [hx env] at g
    exact g.ok S v (Opr.of (hv _ _))
  exact ⟨key, pt_of key he, not_bool hb, fun d h1 h2 => pe.imp fun σ H Q ⟨G, O, env, S, g⟩ => by
    rw [hx env] at g
    exact g.ok S v (NewV.flat S nl (hv _ _))⟩
theorem snd_int (i : Int) : Snd T N k (.int i) := by
  intro X P s ks e cx hc hw
  unfold chkE at hc
  split at hc
  · have := eq_of_beq hc
    subst this
    exact snd_c pe_int (x := .int i) (fun _ => rfl) (fun _ _ => rfl) (fun _ _ _ _ _ _ o => o.int) (by intro _ h; cases h) (fun _ => rfl) rfl
  · cases hc
theorem snd_bl (i : Bool) : Snd T N k (.bl i) := by
  intro X P s ks e cx hc hw
  unfold chkE at hc
  split at hc
  · have := eq_of_beq hc
    subst this
    exact snd_c pe_bl (x := .bl i) (fun _ => rfl) (fun _ _ => rfl) (fun _ _ _ _ _ _ o => o.bl) (by intro _ h; cases h) (fun _ => rfl) rfl
  · cases hc
theorem snd_non : Snd T N k .non := by
  intro X P s ks e cx hc hw
  unfold chkE at hc
  split at hc
  · exact snd_c pe_non (x := .non) (fun _ => rfl) (fun _ _ => rfl) (fun _ _ _ _ _ _ o => o.non) (by intro _ h; cases h) (fun _ => rfl) rfl
  · cases hc
theorem snd_str (x : Str) : Snd T N k (.str x) := by
  intro X P s ks e cx hc hw
  unfold chkE at hc
  split at hc
  · simp only [Bool.and_eq_true] at hc
    obtain ⟨⟨h1, h2⟩, h3⟩ := hc
    have := eq_of_beq h1
    subst this
    exact snd_c pe_str (x := .str x) (fun _ => rfl) (fun _ _ => ⟨rfl, h2, h3⟩) (fun _ _ _ _ _ _ o => o.str.1) (by intro _ h; cases h) (fun _ => rfl) rfl
  · cases hc

/-! ### names -/
theorem okName_of {x : Str} (h : okName x = true) : (x == ("__debug__" : Str)) = false ∧ (x == ("__classdict__" : Str)) = false ∧ x ≠ "__name__" := by
  unfold okName at h
  simp only [Bool.and_eq_true, Bool.not_eq_true'] at h
  exact ⟨h.1.1, h.1.2, ne_of_beq_false h.2⟩
theorem isGl_of (cx : Ctx T N k X P s) {x : Str} (h : isGl s x = true) : Gl X x ∧ okName x = true := by
  unfold isGl at h
  split at h
  · rename_i q
    refine ⟨?_, h⟩
    show X.env.scope.names.lookup x = _
    rw [cx.sc]
    exact q
  · cases h
theorem isVis_of (cx : Ctx T N k X P s) {x : Str} (h : isVis s x = true) : Vis X.env.scope x ∧ okName x = true := by
  unfold isVis at h
  unfold Vis
  rw [cx.sc]
  split at h
  · rename_i q; exact ⟨.inl q, h⟩
  · rename_i q; exact ⟨.inr (.inl q), h⟩
  · rename_i q; exact ⟨.inr (.inr q), h⟩
  · cases h
theorem isLoc_of (cx : Ctx T N k X P s) {x : Str} (h : isLoc s x = true) : L2.Loc X.env.scope x ∧ (X.fn x = true ∨ X.env.scope.names.lookup x = some .local) := by
  unfold isLoc at h
  unfold L2.Loc
  rw [cx.sc]
  split at h
  · rename_i q; exact ⟨.inl q, .inr q⟩
  · rename_i q
    exact ⟨.inr q, .inl (cx.fn _ (Bool.and_eq_true_iff.mp h).2)⟩
  · cases h
theorem nameAt_of (cx : Ctx T N k X P s) {i : Nat} {x : Str} (h : nameAt N i x = true) : X.N[i]? = some x := by
  unfold nameAt at h
  rw [cx.hN]
  split at h
  · rename_i y q
    rw [q, eq_of_beq h]
  · cases h
theorem undefd_ok {v : Val} {e env : Env} {x : Val} (h : undefd v R.bad (.ok v e) = .ok x env) : x = v ∧ env = e ∧ v ≠ .undef := by
  cases v <;> first | (cases h; exact ⟨rfl, rfl, fun z => nomatch z⟩) | cases h
theorem undefd_ne {β : Type} {v : Val} (z k : β) (h : v ≠ .undef) : undefd v z k = k := by
  cases v <;> first | rfl | exact absurd rfl h
theorem pe_slot (cx : Ctx T N k X P s) {i : Nat} {x : Str} {pos : Pos} (h1 : nameAt N i x = true) (h2 : isVis s x = true) : PE X (.Name x pos) (tVar i) := by
  obtain ⟨v, o⟩ := isVis_of cx h2
  obtain ⟨o1, o2, _⟩ := okName_of o
  exact pe_var (nameAt_of cx h1) v o1 o2
theorem snd_var (i : Nat) : Snd T N k (.var i) := by
  intro X P s ks e cx hc hw
  unfold chkE at hc
  split at hc
  · rename_i x _
    simp only [Bool.and_eq_true] at hc
    refine Sd.of ((pe_slot cx hc.1 hc.2).imp fun σ H Q ⟨G, O, env, S, g⟩ => ?_) (fun _ => rfl) rfl rfl
    have g : Goo P σ H G ks O (muts (.var i)) (fun x _ H' O' => ∀ v, Opr P.K H' G O' (ud ks (.var i)) (root (.var i)) x v → Q v H') (undefd (gt env i) .bad (.ok (gt env i) env)) := g
    by_cases z : gt env i = .undef
    · rw [z] at g; exact g.elim
    · rw [undefd_ne _ _ z] at g
      obtain ⟨v, h1, h2⟩ := S.slot i z
      exact ⟨v, h1, g.ok S v (.inl ⟨_, h2, fun _ h => h⟩)⟩
  · cases hc
theorem snd_io (i : Nat) : Snd T N k (.io i) := by
  intro X P s ks e cx hc hw
  unfold wfE at hw
  cases hw

/-! ### constants of the module -/
mutual
theorem same_eq : ∀ {a b : Val}, same a b = true → a = b
  | .non, b, h => by cases b <;> first | rfl | cases h
  | .bl i, b, h => by cases b <;> first | (cases h; done) | skip; have h : (i == _) = true := h; rw [eq_of_beq h]
  | .int i, b, h => by cases b <;> first | (cases h; done) | skip; have h : (i == _) = true := h; rw [eq_of_beq h]
  | .str i, b, h => by cases b <;> first | (cases h; done) | skip; have h : (i == _) = true := h; rw [eq_of_beq h]
  | .tup xs, b, h => by
    cases b <;> first | (cases h; done) | skip
    rename_i ys
    rw [sames_eq (show sames xs ys = true by unfold same at h; exact h)]
  | .lst xs, b, h => by
    cases b <;> first | (cases h; done) | skip
    rename_i ys
    rw [sames_eq (show sames xs ys = true by unfold same at h; exact h)]
  | .undef, b, h => by cases b <;> cases h
  | .dct _ _, b, h => by cases b <;> cases h
  | .opq _ _, b, h => by cases b <;> cases h
theorem sames_eq : ∀ {a b : List Val}, sames a b = true → a = b
  | [], b, h => by
    cases b with
    | nil => rfl
    | cons _ _ => unfold sames at h; cases h
  | x :: xs, b, h => by
    cases b with
    | nil => unfold sames at h; cases h
    | cons y ys =>
      unfold sames at h
      obtain ⟨h1, h2⟩ := Bool.and_eq_true_iff.mp h
      rw [same_eq h1, sames_eq h2]
end
theorem snd_cst (x : Str) (v : Val) : Snd T N k (.cst x v) := by
  intro X P s ks e cx hc hw
  unfold chkE at hc
  split at hc
  · rename_i y _
    simp only [Bool.and_eq_true] at hc
    obtain ⟨⟨h1, h2⟩, h3⟩ := hc
    have := eq_of_beq h1
    subst this
    obtain ⟨hg, ho⟩ := isGl_of cx h2
    unfold cstIs at h3
    split at h3
    · rename_i w' hl
      have := same_eq h3
      subst this
      obtain ⟨w, u, hm, r, hv⟩ := cx.cst _ _ hl
      rw [cx.K] at hv
      refine Sd.of ((pe_glob hg hm r (okName_of ho).1).imp fun σ H Q ⟨G, O, env, S, g⟩ => ?_) (fun _ => rfl) rfl rfl
      exact g.ok S w (Opr.of (hv _ _))
    · cases h3
  · cases hc

/-! ### operators -/
theorem app_l {a b : List Nat} {i : Nat} (h : i ∈ a) : i ∈ a ++ b := List.mem_append_left _ h
theorem app_r {a b : List Nat} {i : Nat} (h : i ∈ b) : i ∈ a ++ b := List.mem_append_right _ h
theorem flat_ud (h : flatE ks m = true) : ud ks m ≤ 1 := Nat.le_of_ble_eq_true h
theorem NewV.down {K : PySem.W.Frag} {H0 H1 H : Hp} {G : Addr → Prop} {O O1 : Own} {d : Nat} {x : Val} {v : V} {M : List Nat} {env env' : Env} {σ σ' : L2.St} (p : Pst K H0 G ks O M env σ H1 O1) {O' : Own} (n : NewV K H1 H G ks env' σ' O' d x v) : NewV K H0 H G ks env' σ' O' d x v := n.back p.dom
/-- the operands of a two-place word -/
theorem rd2 {P : Par} {ks : List Nat} {a b : E} {M : List Nat} {σ : L2.St} {H : Hp} {G : Addr → Prop} {O : Own} {env : Env} {α : Type} {T : α → Env → Hp → Own → Prop} {kk : Val → Val → Env → R α} {R : V → V → Hp → Prop} (S : Stt P.K H G ks env σ O)
    (ha : ∀ i, i ∈ muts a → i ∈ M) (hb : ∀ i, i ∈ muts b → i ∈ M) (hw : away ks a (muts b) = true) (g : Goo P σ H G ks O M T (bindR (ev P.C a env) fun x e1 => bindR (ev P.C b e1) fun y e2 => kk x y e2))
    (hk : ∀ x y env2 v w H2 O2, Pst P.K H G ks O M env2 σ H2 O2 → Opr P.K H2 G O2 (ud ks a) (root a) x v → Opr P.K H2 G O2 (ud ks b) (root b) y w → Goo P σ H2 G ks O2 M T (kk x y env2) → R v w H2) :
    rdP P ks a σ H fun v H1 => rdP P ks b σ H1 fun w H2 => R v w H2 :=
  bindP S ha g fun x env1 v H1 O1 p1 o1 g1 => bindP p1.st hb g1 fun y env2 w H2 O2 p2 o2 g2 =>
    hk x y env2 v w H2 O2 ((p1.mono ha).trans (p2.mono hb)) (o1.step p1.st p2 (away_of hw)) o2 g2
theorem snd_bin {o : Bop} {a b : E} (ia : Snd T N k a) (ib : Snd T N k b) : Snd T N k (.bin o a b) := by
  intro X P s ks e cx hc hw
  unfold chkE at hc
  split at hc
  · rename_i x op y pos
    simp only [Bool.and_eq_true] at hc
    obtain ⟨⟨h1, h2⟩, h3⟩ := hc
    have h1 := eq_of_beq h1
    subst h1
    unfold wfE at hw
    simp only [Bool.and_eq_true] at hw
    obtain ⟨⟨⟨⟨w1, w2⟩, w3⟩, w4⟩, w5⟩ := hw
    have key : PE X (.BinOp x (opOf o) y pos) (rdF P ks (.bin o a b) 1) := (pe_op (op_bop o) (ia X P s ks x cx h2 w1).pe (ib X P s ks y cx h3 w2).pe).imp fun σ H Q ⟨G, O, env, S, g⟩ => by
      refine rd2 (M := muts (.bin o a b)) S (fun _ h => app_l h) (fun _ h => app_r h) w5 g fun x' y' env2 v w H2 O2 p o1 o2 g2 => ?_
      obtain ⟨z, hz, hg⟩ := g2.ofO
      rw [cx.K]
      exact bop_ok p.st (flat_ud w3) (flat_ud w4) o1 o2 hz fun H' O' q v' n => hg H' O' (q.mono fun _ z => nomatch z) v' (n.down p)
    refine ⟨pe_ofF key, pt_of (pe_ofF key) (fun _ => rfl), not_bool rfl, fun d h1 h2 => ?_⟩
    have hle : fr T ks (.bin o a b) ≤ 1 := by cases o <;> first | exact Nat.le_refl _ | exact Nat.zero_le _
    have e : d = 1 := by omega
    subst e
    exact key
  · cases hc
end
end Mp
set_option Elab.async false
set_option linter.all false
set_option maxRecDepth 10000
/-! # Mp: comparisons, and, or, if, items, slices, displays, built-ins. -/
namespace Mp
open PySem PySem.Spec PyProof.Rows L2
section
variable {T : Tab} {N : List Str} {k : Nat} {X : Cx} {P : Par} {s : Sx} {ks : List Nat} {e : Expr} {m : E}
theorem Goo.imp {α : Type} {σ : L2.St} {H : Hp} {G : Addr → Prop} {O : Own} {M M' : List Nat} {T1 T2 : α → Env → Hp → Own → Prop} {r : R α} (g : Goo P σ H G ks O M T1 r) (hM : ∀ i, i ∈ M' → i ∈ M)
    (hT : ∀ x e H' O', Pst P.K H G ks O M' e σ H' O' → T1 x e H' O' → T2 x e H' O') : Goo P σ H G ks O M' T2 r := by
  cases r with
  | ok x e => exact fun H' O' p => hT x e H' O' p (g H' O' (p.mono hM))
  | exc x e => exact fun cls d H' O' p => g cls d H' O' (p.mono hM)
  | bad => exact g
theorem snd_neg {a : E} (ia : Snd T N k a) : Snd T N k (.neg a) := by
  intro X P s ks e cx hc hw
  unfold chkE at hc
  split at hc
  · rename_i x pos
    have hw : wfE T ks a = true := by unfold wfE at hw; exact hw
    refine Sd.of ((pe_un (pos := pos) un_neg (ia X P s ks x cx hc hw).pe).imp fun σ H Q ⟨G, O, env, S, g⟩ => ?_) (fun _ => rfl) rfl rfl
    exact bindPI (M := muts (.neg a)) S (fun _ h => h) g fun c env1 H1 O1 p g1 => ⟨c, rfl, g1.ok p.st _ (Opr.of rfl)⟩
  · cases hc
theorem noSet_mark {y : Expr} (h : noSet y = true) (op : CmpOp) : behindInMarks op y = false := by
  cases y <;> first | rfl | (cases h)
theorem units_of (cx : Ctx T N k X P s) : X.A.units + 191 < cLine := by have := cx.room.un; omega
theorem cmp_core {o : Cop} {a b : E} {σ : L2.St} {H : Hp} {G : Addr → Prop} {O : Own} {env : Env} {M : List Nat} {T1 : Val → Env → Hp → Own → Prop} {Q : VK} (cx : Ctx T N k X P s) (S : Stt P.K H G ks env σ O) (ha : ∀ i, i ∈ muts a → i ∈ M) (hb : ∀ i, i ∈ muts b → i ∈ M)
    (hw : away ks a (muts b) = true) (g : Goo P σ H G ks O M T1 (ev P.C (.cmp o a b) env)) (hT : ∀ z e H' O', T1 (.bl z) e H' O' → Q (.bl z) H') : tOp (rCop X.K o) (rdP P ks a) (rdP P ks b) σ H Q :=
  rd2 S ha hb hw g fun x' y' env2 v w H2 O2 p o1 o2 g2 => by
    obtain ⟨z, hz, hg⟩ := g2.ofB
    rw [cx.K]
    exact cop_ok p.st o1 o2 hz (hT _ _ _ _ (hg H2 O2 (Pst.refl p.st)))
theorem snd_cmp {o : Cop} {a b : E} (ia : Snd T N k a) (ib : Snd T N k b) : Snd T N k (.cmp o a b) := by
  intro X P s ks e cx hc hw
  unfold chkE at hc
  split at hc
  · rename_i x op y pos
    simp only [Bool.and_eq_true] at hc
    obtain ⟨⟨⟨h1, h0⟩, h2⟩, h3⟩ := hc
    have h1 := eq_of_beq h1
    subst h1
    unfold wfE at hw
    simp only [Bool.and_eq_true] at hw
    obtain ⟨⟨w1, w2⟩, w5⟩ := hw
    have pa := (ia X P s ks x cx h2 w1).pe
    have pb := (ib X P s ks y cx h3 w2).pe
    refine ⟨(pe_cmpR (pos := pos) (op_cop (units_of cx) o) pa pb (noSet_mark h0 _)).imp fun σ H Q ⟨G, O, env, S, g⟩ => ?_, (pt_cmpR (pos := pos) (op_cop (units_of cx) o) pa pb (noSet_mark h0 _)).imp fun σ H Q ⟨G, O, env, S, g⟩ => ?_, not_bool rfl, fun d h1 h2 => by cases (Nat.le_trans h1 h2)⟩
    · exact cmp_core (M := muts (.cmp o a b)) cx S (fun _ h => app_l h) (fun _ h => app_r h) w5 g fun z _ _ _ t => t _ (Opr.of rfl)
    · exact cmp_core (M := muts (.cmp o a b)) cx S (fun _ h => app_l h) (fun _ h => app_r h) w5 g fun z _ _ _ ⟨c, e, q⟩ => by
        cases e
        exact ⟨_, rfl, q⟩
  · cases hc
theorem condB_goo {α : Type} {σ : L2.St} {H : Hp} {G : Addr → Prop} {O : Own} {M : List Nat} {T1 : Val → Env → Hp → Own → Prop} {o : Option Bool} {t f : R Val} (g : Goo P σ H G ks O M T1 (condB o t f)) : ∃ c, o = some c ∧ Goo P σ H G ks O M T1 (if c = true then t else f) := by
  cases o with
  | none => exact g.elim
  | some c => cases c <;> exact ⟨_, rfl, g⟩
theorem cmp2_core {o o2 : Cop} {a b c : E} {σ : L2.St} {H : Hp} {G : Addr → Prop} {O : Own} {env : Env} {T1 : Val → Env → Hp → Own → Prop} {Q : VK} (cx : Ctx T N k X P s) (S : Stt P.K H G ks env σ O)
    (hw : away ks a (muts b) = true) (hw2 : away ks b (muts c) = true) (g : Goo P σ H G ks O (muts (.cmp2 o o2 a b c)) T1 (ev P.C (.cmp2 o o2 a b c) env)) (hT : ∀ z e H' O', T1 (.bl z) e H' O' → Q (.bl z) H') : tChain (rCop X.K o) (rCop X.K o2) (rdP P ks a) (rdP P ks b) (rdP P ks c) σ H Q :=
  rd2 (M := muts (.cmp2 o o2 a b c)) S (fun _ h => app_l h) (fun _ h => app_r (app_l h)) hw g fun x' y' env2 v w H2 O2 p q1 q2 g2 => by
    obtain ⟨z, hz, hg⟩ := condB_goo (α := Val) g2
    rw [cx.K]
    refine cop_ok p.st q1 q2 hz ⟨z, rfl, ?_⟩
    cases z with
    | false => exact hT _ _ _ _ (hg H2 O2 (Pst.refl p.st))
    | true =>
      refine bindP p.st (M := muts (.cmp2 o o2 a b c)) (fun _ h => app_r (app_r h)) hg fun z3 env3 w3 H3 O3 p3 q3 g3 => ?_
      obtain ⟨z4, hz4, hg4⟩ := g3.ofB
      exact cop_ok p3.st (q2.step p.st p3 (away_of hw2)) q3 hz4 (hT _ _ _ _ (hg4 H3 O3 (Pst.refl p3.st)))
theorem snd_cmp2 {o o2 : Cop} {a b c : E} (ia : Snd T N k a) (ib : Snd T N k b) (ic : Snd T N k c) : Snd T N k (.cmp2 o o2 a b c) := by
  intro X P s ks e cx hc hw
  unfold chkE at hc
  split at hc
  · rename_i x op op2 y z pos
    simp only [Bool.and_eq_true] at hc
    obtain ⟨⟨⟨⟨⟨⟨h1, h1'⟩, h0⟩, h0'⟩, h2⟩, h3⟩, h4⟩ := hc
    have h1 := eq_of_beq h1
    subst h1
    have h1' := eq_of_beq h1'
    subst h1'
    unfold wfE at hw
    simp only [Bool.and_eq_true] at hw
    obtain ⟨⟨⟨⟨w1, w2⟩, w3⟩, w4⟩, w5⟩ := hw
    have pa := (ia X P s ks x cx h2 w1).pe
    have pb := (ib X P s ks y cx h3 w2).pe
    have pc := (ic X P s ks z cx h4 w3).pe
    have hm : lastMarks [copOf o, copOf o2] [y, z] = false := noSet_mark h0' (copOf o2)
    refine ⟨(pe_chain (pos := pos) (op_cop (units_of cx) o) (op_cop (units_of cx) o2) pa pb pc hm).imp fun σ H Q ⟨G, O, env, S, g⟩ => ?_, (pt_chain (pos := pos) (op_cop (units_of cx) o) (op_cop (units_of cx) o2) pa pb pc hm).imp fun σ H Q ⟨G, O, env, S, g⟩ => ?_, not_bool rfl, fun d h1 h2 => by cases (Nat.le_trans h1 h2)⟩
    · exact cmp2_core cx S w4 w5 g fun z _ _ _ t => t _ (Opr.of rfl)
    · exact cmp2_core cx S w4 w5 g fun z _ _ _ ⟨c, e, q⟩ => by
        cases e
        exact ⟨_, rfl, q⟩
  · cases hc

/-! ### and, or, not, if -/
theorem safe_ud (h : safe ks m = true) : ud ks m = 0 := Nat.eq_of_beq_eq_true h
/-- a part that ends the whole, as a value -/
theorem endP {b : E} {σ : L2.St} {H : Hp} {G : Addr → Prop} {O : Own} {env : Env} {M : List Nat} {r0 : Nat} {Q : VK} (S : Stt P.K H G ks env σ O) (hM : ∀ i, i ∈ muts b → i ∈ M) (hs : safe ks b = true)
    (g : Goo P σ H G ks O M (fun x _ H' O' => ∀ v, Opr P.K H' G O' 0 r0 x v → Q v H') (ev P.C b env)) : rdP P ks b σ H Q := ⟨G, O, env, S, g.imp hM fun x e H' O' p t v o => t v (by
  rw [safe_ud hs] at o
  exact Opr.of o.vr)⟩
theorem endT {b : E} {σ : L2.St} {H : Hp} {G : Addr → Prop} {O : Own} {env : Env} {M : List Nat} {Q : Bool → Hp → Prop} (S : Stt P.K H G ks env σ O) (hM : ∀ i, i ∈ muts b → i ∈ M)
    (g : Goo P σ H G ks O M (fun x _ H' _ => ∃ b, x = .bl b ∧ Q b H') (ev P.C b env)) : rdT P ks b σ H Q := ⟨G, O, env, S, g.imp hM fun x e H' O' p t => t⟩
theorem endF {b : E} {σ : L2.St} {H0 H : Hp} {G : Addr → Prop} {O0 O : Own} {env : Env} {M : List Nat} {d : Nat} {Q : VK} (S : Stt P.K H G ks env σ O) (hb : ∀ a, H a = none → H0 a = none) (hM : ∀ i, i ∈ muts b → i ∈ M)
    (g : Goo P σ H G ks O M (fun x e' H' O' => ∀ v, NewV P.K H0 H' G ks e' σ O' d x v → Q v H') (ev P.C b env)) : rdF P ks b d σ H Q := ⟨G, O, env, S, g.imp hM fun x e H' O' p t v o => t v (o.back hb)⟩
theorem and_p {a b : E} {σ : L2.St} {H : Hp} {Q : VK} (hs : safe ks b = true) (h : rdP P ks (.and a b) σ H Q) : tAndV (rdP P ks a) (rdP P ks b) σ H Q := by
  obtain ⟨G, O, env, S, g⟩ := h
  refine bindPB (M := muts (.and a b)) S (fun _ h => app_l h) g fun c env1 H1 O1 p g1 => ⟨c, rfl, ?_⟩
  cases c with
  | true => exact endP p.st (fun _ h => app_r h) hs g1
  | false => exact g1.ok p.st _ (Opr.of rfl)
theorem or_p {a b : E} {σ : L2.St} {H : Hp} {Q : VK} (hs : safe ks b = true) (h : rdP P ks (.or a b) σ H Q) : tOrV (rdP P ks a) (rdP P ks b) σ H Q := by
  obtain ⟨G, O, env, S, g⟩ := h
  refine bindPB (M := muts (.or a b)) S (fun _ h => app_l h) g fun c env1 H1 O1 p g1 => ⟨c, rfl, ?_⟩
  cases c with
  | false => exact endP p.st (fun _ h => app_r h) hs g1
  | true => exact g1.ok p.st _ (Opr.of rfl)
theorem and_t {a b : E} {σ : L2.St} {H : Hp} {Q : Bool → Hp → Prop} (h : rdT P ks (.and a b) σ H Q) : tAnd (rdT P ks a) (rdT P ks b) σ H Q := by
  obtain ⟨G, O, env, S, g⟩ := h
  refine bindPT (M := muts (.and a b)) S (fun _ h => app_l h) g fun c env1 H1 O1 p g1 => ?_
  cases c with
  | true => exact endT p.st (fun _ h => app_r h) g1
  | false =>
    obtain ⟨b', e, q⟩ := g1.ok p.st
    cases e
    exact q
theorem or_t {a b : E} {σ : L2.St} {H : Hp} {Q : Bool → Hp → Prop} (h : rdT P ks (.or a b) σ H Q) : tOr (rdT P ks a) (rdT P ks b) σ H Q := by
  obtain ⟨G, O, env, S, g⟩ := h
  refine bindPT (M := muts (.or a b)) S (fun _ h => app_l h) g fun c env1 H1 O1 p g1 => ?_
  cases c with
  | false => exact endT p.st (fun _ h => app_r h) g1
  | true =>
    obtain ⟨b', e, q⟩ := g1.ok p.st
    cases e
    exact q
theorem snd_and {a b : E} (ia : Snd T N k a) (ib : Snd T N k b) : Snd T N k (.and a b) := by
  intro X P s ks e cx hc hw
  unfold wfE at hw
  simp only [Bool.and_eq_true] at hw
  obtain ⟨⟨⟨w1, w2⟩, w3⟩, w4⟩ := hw
  unfold chkE at hc
  split at hc
  · rename_i x y pos
    simp only [Bool.and_eq_true] at hc
    have da := ia X P s ks x cx hc.1 w1
    have db := ib X P s ks y cx hc.2 w2
    have w : PW X (.BoolOp .And [x, y] pos) (rdT P ks (.and a b)) := (pw_and da.pt (pw_and1 db.pt)).imp fun σ H Q h => and_t h
    exact ⟨(pe_and da.pe (pe_one db.pe)).imp fun σ H Q h => and_p w4 h, w.pt, fun _ => w, fun d h1 h2 => by cases (Nat.le_trans h1 h2)⟩
  · rename_i x y z r pos
    simp only [Bool.and_eq_true] at hc
    have da := ia X P s ks x cx hc.1 w1
    have db := ib X P s ks _ cx hc.2 w2
    have w : PW X (.BoolOp .And (x :: y :: z :: r) pos) (rdT P ks (.and a b)) := (pw_and da.pt (db.pw rfl)).imp fun σ H Q h => and_t h
    exact ⟨(pe_and da.pe db.pe).imp fun σ H Q h => and_p w4 h, w.pt, fun _ => w, fun d h1 h2 => by cases (Nat.le_trans h1 h2)⟩
  · cases hc
theorem snd_or {a b : E} (ia : Snd T N k a) (ib : Snd T N k b) : Snd T N k (.or a b) := by
  intro X P s ks e cx hc hw
  unfold wfE at hw
  simp only [Bool.and_eq_true] at hw
  obtain ⟨⟨⟨w1, w2⟩, w3⟩, w4⟩ := hw
  unfold chkE at hc
  split at hc
  · rename_i x y pos
    simp only [Bool.and_eq_true] at hc
    have da := ia X P s ks x cx hc.1 w1
    have db := ib X P s ks y cx hc.2 w2
    have w : PW X (.BoolOp .Or [x, y] pos) (rdT P ks (.or a b)) := (pw_or da.pt (pw_or1 db.pt)).imp fun σ H Q h => or_t h
    exact ⟨(pe_or da.pe (pe_one db.pe)).imp fun σ H Q h => or_p w4 h, w.pt, fun _ => w, fun d h1 h2 => by cases (Nat.le_trans h1 h2)⟩
  · rename_i x y z r pos
    simp only [Bool.and_eq_true] at hc
    have da := ia X P s ks x cx hc.1 w1
    have db := ib X P s ks _ cx hc.2 w2
    have w : PW X (.BoolOp .Or (x :: y :: z :: r) pos) (rdT P ks (.or a b)) := (pw_or da.pt (db.pw rfl)).imp fun σ H Q h => or_t h
    exact ⟨(pe_or da.pe db.pe).imp fun σ H Q h => or_p w4 h, w.pt, fun _ => w, fun d h1 h2 => by cases (Nat.le_trans h1 h2)⟩
  · cases hc
theorem snd_not {a : E} (ia : Snd T N k a) : Snd T N k (.not a) := by
  intro X P s ks e cx hc hw
  unfold chkE at hc
  split at hc
  · rename_i x pos
    have hw : wfE T ks a = true := by unfold wfE at hw; exact hw
    have d := ia X P s ks x cx hc hw
    refine ⟨(pe_not (pos := pos) d.pe).imp fun σ H Q ⟨G, O, env, S, g⟩ => ?_, (pt_not (pos := pos) d.pt).imp fun σ H Q ⟨G, O, env, S, g⟩ => ?_, not_bool rfl, fun d h1 h2 => by cases (Nat.le_trans h1 h2)⟩
    · exact bindPB (M := muts (.not a)) S (fun _ h => h) g fun c env1 H1 O1 p g1 => ⟨c, rfl, g1.ok p.st _ (Opr.of rfl)⟩
    · refine bindPT (M := muts (.not a)) S (fun _ h => h) g fun c env1 H1 O1 p g1 => ?_
      obtain ⟨b', e, q⟩ := g1.ok p.st
      cases e
      exact q
  · cases hc
def tIfT (t ta tb : TT) : TT := fun σ H Q => t σ H fun c H1 => if c = true then ta σ H1 Q else tb σ H1 Q
theorem pt_ifExp {tA ta tb : TT} {c a b : Expr} {pos : Pos} (hc : PT X c tA) (ha : PT X a ta) (hb : PT X b tb) : PT X (.IfExp c a b pos) (tIfT tA ta tb) := by
  refine ⟨fun pins s σ H Q I h => ?_⟩
  refine isTrue_IfExp (thn (hc.run pins s σ H _ I h) fun d s1 ⟨H1, I1, q1⟩ => ?_)
  cases d with
  | true => exact ha.run pins s1 σ H1 Q I1 q1
  | false => exact hb.run pins s1 σ H1 Q I1 q1
theorem snd_ite {c a b : E} (ic : Snd T N k c) (ia : Snd T N k a) (ib : Snd T N k b) : Snd T N k (.ite c a b) := by
  intro X P s ks e cx hc hw
  unfold wfE at hw
  simp only [Bool.and_eq_true] at hw
  obtain ⟨⟨⟨⟨w0, w1⟩, w2⟩, w3⟩, w4⟩ := hw
  unfold chkE at hc
  split at hc
  · rename_i z x y pos
    simp only [Bool.and_eq_true] at hc
    have dc := ic X P s ks z cx hc.1.1 w0
    have da := ia X P s ks x cx hc.1.2 w1
    have db := ib X P s ks y cx hc.2 w2
    refine ⟨(pe_ifExp (pos := pos) dc.pt da.pe db.pe).imp fun σ H Q ⟨G, O, env, S, g⟩ => ?_, (pt_ifExp (pos := pos) dc.pt da.pt db.pt).imp fun σ H Q ⟨G, O, env, S, g⟩ => ?_, not_bool rfl, fun d h1 h2 =>
      (pe_ifExp (pos := pos) dc.pt (da.pf d h1 (Nat.le_trans h2 (Nat.min_le_left _ _))) (db.pf d h1 (Nat.le_trans h2 (Nat.min_le_right _ _)))).imp fun σ H Q ⟨G, O, env, S, g⟩ => ?_⟩
    · refine bindPT (M := muts (.ite c a b)) S (fun _ h => app_l h) g fun c' env1 H1 O1 p g1 => ?_
      cases c' with
      | true => exact endP p.st (fun _ h => app_r (app_l h)) w3 g1
      | false => exact endP p.st (fun _ h => app_r (app_r h)) w4 g1
    · refine bindPT (M := muts (.ite c a b)) S (fun _ h => app_l h) g fun c' env1 H1 O1 p g1 => ?_
      cases c' with
      | true => exact endT p.st (fun _ h => app_r (app_l h)) g1
      | false => exact endT p.st (fun _ h => app_r (app_r h)) g1
    · refine bindPT (M := muts (.ite c a b)) S (fun _ h => app_l h) g fun c' env1 H1 O1 p g1 => ?_
      cases c' with
      | true => exact endF (O0 := O) p.st p.dom (fun _ h => app_r (app_l h)) g1
      | false => exact endF (O0 := O) p.st p.dom (fun _ h => app_r (app_r h)) g1
  · cases hc

/-! ### items, slices -/
theorem noSlice_ix {y : Expr} (h : noSlice y = true) : PlainIx y := by
  intro o i
  cases y <;> first | rfl | cases h
theorem snd_idx {a b : E} (ia : Snd T N k a) (ib : Snd T N k b) : Snd T N k (.idx a b) := by
  intro X P s ks e cx hc hw
  unfold chkE at hc
  split at hc
  · rename_i x y pos
    simp only [Bool.and_eq_true] at hc
    obtain ⟨⟨h0, h2⟩, h3⟩ := hc
    unfold wfE at hw
    simp only [Bool.and_eq_true] at hw
    obtain ⟨⟨⟨w1, w2⟩, w5⟩, w6⟩ := hw
    refine Sd.of ((pe_ix (pos := pos) ix_seq (ia X P s ks x cx h2 w1).pe (ib X P s ks y cx h3 w2).pe (noSlice_ix h0)).imp fun σ H Q ⟨G, O, env, S, g⟩ => ?_) (fun _ => rfl) rfl rfl
    refine rd2 (M := muts (.idx a b)) S (fun _ h => app_l h) (fun _ h => app_r h) w5 g fun x' y' env2 v w H2 O2 p o1 o2 g2 => ?_
    obtain ⟨z, hz, hg⟩ := g2.ofO
    rw [cx.K]
    exact idx_ok p.st (Nat.le_of_ble_eq_true w6) o1 o2 hz fun v' o' => hg H2 O2 (Pst.refl p.st) v' o'
  · cases hc
/-- a slice's part -/
def rdO (P : Par) (ks : List Nat) (l : List E) : TO := fun σ H Q => ∃ G O env, Stt P.K H G ks env σ O ∧ Goo P σ H G ks O (mutsL l) (fun xs _ H' _ => ∃ o, partOf xs = some o ∧ Q o H') (evs P.C l env)
theorem po_of {l : List E} {o : Option Expr} (il : ∀ a, a ∈ l → Snd T N k a) (cx : Ctx T N k X P s) (hc : chkL T N l s (optL o) = true) (hw : wfL T ks l = true) : PO X o (rdO P ks l) := by
  cases o with
  | none =>
    cases l with
    | nil => exact ⟨fun pins s σ H Q I ⟨G, O, env, S, g⟩ => po_none.run pins s σ H Q I (by
        obtain ⟨o, e, q⟩ := g.ok S
        cases e
        exact q)⟩
    | cons a r => unfold optL chkL at hc; cases hc
  | some x =>
    cases l with
    | nil => unfold optL chkL at hc; cases hc
    | cons a r =>
      cases r with
      | cons b r => unfold optL chkL chkL at hc; simp at hc
      | nil =>
        unfold optL chkL at hc
        simp only [Bool.and_eq_true] at hc
        unfold wfL at hw
        simp only [Bool.and_eq_true] at hw
        have da := il a (by simp) X P s ks x cx hc.1.2 hw.1
        refine ⟨fun pins s σ H Q I ⟨G, O, env, S, g⟩ => (po_some da.pe).run pins s σ H Q I ?_⟩
        refine bindP (M := mutsL [a]) S (fun _ h => app_l h) g fun z env1 v H1 O1 p o1 g1 => ?_
        obtain ⟨o, e, q⟩ := g1.ok p.st
        cases z <;> first | (have e' : (none : Option (Option Int)) = some o := e; cases e'; done) | skip
        cases e
        exact ⟨_, o1.int, q⟩
theorem bindOpt {l : List E} {σ : L2.St} {H : Hp} {G : Addr → Prop} {O : Own} {env : Env} {M : List Nat} {α : Type} {T1 : α → Env → Hp → Own → Prop} {kk : List Val → Env → R α} {R1 : Option Int → Hp → Prop} (S : Stt P.K H G ks env σ O) (hM : ∀ i, i ∈ mutsL l → i ∈ M)
    (g : Goo P σ H G ks O M T1 (bindR (evs P.C l env) kk)) (hk : ∀ xs env1 H1 O1, Pst P.K H G ks O (mutsL l) env1 σ H1 O1 → Goo P σ H1 G ks O1 M T1 (kk xs env1) → ∃ o, partOf xs = some o ∧ R1 o H1) : rdO P ks l σ H R1 := by
  refine ⟨G, O, env, S, ?_⟩
  cases h : evs P.C l env with
  | ok x e =>
    rw [h] at g
    exact fun H1 O1 p => hk x e H1 O1 p (Goo.shift p hM g)
  | exc x e =>
    rw [h] at g
    exact fun cls d H1 O1 p => g cls d H1 O1 (p.mono hM)
  | bad =>
    rw [h] at g
    exact g
theorem okPart_goo {σ : L2.St} {H : Hp} {G : Addr → Prop} {O : Own} {M : List Nat} {T1 : Val → Env → Hp → Own → Prop} {o : Option (Option Int)} {r : R Val} (g : Goo P σ H G ks O M T1 (okPart o r)) : ∃ p, o = some p ∧ Goo P σ H G ks O M T1 r := by
  cases o with
  | none => exact g.elim
  | some p => exact ⟨p, rfl, g⟩
theorem away_app {a : E} {m1 m2 : List Nat} (h : away ks a (m1 ++ m2) = true) : ud ks a = 0 ∨ (root a ∉ m1 ∧ root a ∉ m2) := by
  rcases away_of h with h | h
  · exact .inl h
  · exact .inr ⟨fun z => h (app_l z), fun z => h (app_r z)⟩
theorem snd_slc {a : E} {lo hi : List E} (ia : Snd T N k a) (il : ∀ a, a ∈ lo → Snd T N k a) (ih : ∀ a, a ∈ hi → Snd T N k a) : Snd T N k (.slc a lo hi) := by
  intro X P s ks e cx hc hw
  unfold chkE at hc
  split at hc
  · rename_i x l h p2 pos
    simp only [Bool.and_eq_true] at hc
    obtain ⟨⟨h1, h2⟩, h3⟩ := hc
    unfold wfE at hw
    simp only [Bool.and_eq_true] at hw
    obtain ⟨⟨⟨⟨w1, w2⟩, w3⟩, w4⟩, w5⟩ := hw
    have aw := away_app w5
    refine Sd.ofF ((pe_slice (pos := pos) (p2 := p2) sl_slc (ia X P s ks x cx h1 w1).pe (po_of il cx h2 w2) (po_of ih cx h3 w3)).imp fun σ H Q ⟨G, O, env, S, g⟩ => ?_) (fun _ => rfl) rfl rfl
    rw [ev_slc] at g
    refine bindP (M := muts (.slc a lo hi)) S (fun _ h => app_l h) g fun z env1 v H1 O1 p1 o1 g1 => ?_
    refine bindOpt (M := muts (.slc a lo hi)) p1.st (fun _ h => app_r (app_l h)) g1 fun xs env2 H2 O2 p2 g2 => ?_
    obtain ⟨lo', hlo, g2⟩ := okPart_goo g2
    refine ⟨lo', hlo, ?_⟩
    refine bindOpt (M := muts (.slc a lo hi)) p2.st (fun _ h => app_r (app_r h)) g2 fun ys env3 H3 O3 p3 g3 => ?_
    obtain ⟨w, hw, hg⟩ := g3.ofO
    unfold slcV at hw
    rw [hlo] at hw
    have hw : obind (partOf ys) (fun h => cutVal lo' h z) = some w := hw
    obtain ⟨hi', hhi, hw⟩ := obind_eq hw
    refine ⟨hi', hhi, ?_⟩
    rw [cx.K]
    have o3 := (o1.step p1.st p2 (aw.imp id fun q => q.1)).step p2.st p3 (aw.imp id fun q => q.2)
    exact slc_ok p3.st (flat_ud w4) o3 hw fun H' O' q v' n => hg H' O' (q.mono fun _ z => nomatch z) v' (((n.down p3).down p2).down p1)
  · cases hc
theorem snd_rv {a : E} (ia : Snd T N k a) : Snd T N k (.rv a) := by
  intro X P s ks e cx hc hw
  unfold chkE at hc
  split at hc
  · rename_i x _ p1 p2 p3 pos
    unfold wfE at hw
    simp only [Bool.and_eq_true] at hw
    refine Sd.ofF ((pe_rev (ia X P s ks x cx hc hw.1).pe).imp fun σ H Q ⟨G, O, env, S, g⟩ => ?_) (fun _ => rfl) rfl rfl
    refine bindP (M := muts (.rv a)) S (fun _ h => h) g fun z env1 v H1 O1 p1 o1 g1 => ?_
    obtain ⟨w, hz, hg⟩ := g1.ofO
    have hq : Hands P.K H1 G ks O1 env1 σ w Q := fun H' O' q v' n => hg H' O' (q.mono fun _ z => nomatch z) v' (n.down p1)
    cases z <;> first | (have hz' : (none : Option Val) = some w := hz; cases hz'; done) | skip
    · cases hz
      obtain ⟨b, vs, rfl, t, r⟩ := o1.tup
      exact .inr ⟨b, vs, rfl, by rw [cx.K]; exact t.sqt, hq.tup p1.st r.reverse⟩
    · cases hz
      obtain ⟨b, vs, rfl, t, r⟩ := o1.lst (flat_ud hw.2)
      exact .inl ⟨b, vs, rfl, by rw [cx.K]; exact SqL.of t, fun q hq' => hq.lst p1.st r.reverse q hq'⟩
  · cases hc
end
end Mp
set_option Elab.async false
set_option linter.all false
set_option maxRecDepth 10000
/-! # Mp: argument lists, displays, built-ins, methods, pop. -/
namespace Mp
open PySem PySem.Spec PyProof.Rows L2
section
variable {T : Tab} {N : List Str} {k : Nat} {X : Cx} {P : Par} {s : Sx} {ks : List Nat} {e : Expr} {m : E}
theorem noStar_each {e : Expr} {es : List Expr} {env : PySem.Env} (h : noStar e = true) : starEach (e :: es) env = (false, eval e env) :: starEach es env := by
  cases e <;> first | rfl | cases h
theorem chkL_plain {l : List E} : ∀ {es : List Expr} {env : PySem.Env} {pos : Pos}, chkL T N l s es = true → (backTo pos (starEach es env)).any (·.1) = false ∧ (backTo pos (starEach es env)).all (fun x => !x.1) = true := by
  induction l with
  | nil =>
    intro es env pos h
    cases es with
    | nil => exact ⟨rfl, rfl⟩
    | cons _ _ => unfold chkL at h; cases h
  | cons a r ih =>
    intro es env pos h
    cases es with
    | nil => unfold chkL at h; cases h
    | cons x xr =>
      unfold chkL at h
      simp only [Bool.and_eq_true] at h
      rw [noStar_each h.1.1]
      exact ⟨(ih (es := xr) (env := env) (pos := pos) h.2).1, (ih (es := xr) (env := env) (pos := pos) h.2).2⟩
theorem sndL_nil : SndL T N k [] := by
  intro X P s ks es cx hc hw hs
  cases es with
  | cons _ _ => unfold chkL at hc; cases hc
  | nil => exact pa_nil.imp fun σ H Q ⟨G, O, env, S, g⟩ => g.ok S [] ⟨rfl, rfl⟩
theorem sndL_cons {a : E} {r : List E} (ia : Snd T N k a) (ir : SndL T N k r) : SndL T N k (a :: r) := by
  intro X P s ks es cx hc hw hs
  cases es with
  | nil => unfold chkL at hc; cases hc
  | cons x xr =>
    unfold chkL at hc
    simp only [Bool.and_eq_true] at hc
    unfold wfA at hw
    simp only [Bool.and_eq_true] at hw
    unfold seqL at hs
    simp only [Bool.and_eq_true] at hs
    have pr := ir X P s ks xr cx hc.2 hw.2 hs.2
    cases hio : isIo a with
    | false =>
      rw [hio] at hw
      have da := ia X P s ks x cx hc.1.2 (by simpa using hw.1)
      refine (pa_cons da.pe pr (noStar_each hc.1.1)).imp fun σ H Q ⟨G, O, env, S, g⟩ => ?_
      refine bindP (M := mutsL (a :: r)) S (fun _ h => app_l h) g fun z env1 v H1 O1 p1 o1 g1 => ?_
      refine bindA (M := mutsL (a :: r)) p1.st (fun _ h => app_r h) g1 fun zs env2 vs H2 O2 p2 o2 g2 => ?_
      refine g2.ok p2.st (v :: vs) ⟨z, zs, v, vs, rfl, rfl, ?_, o2⟩
      rw [isIoOf_none hio]
      exact o1.step p1.st p2 (away_of hs.1)
    | true =>
      cases a <;> first | (cases hio; done) | skip
      rename_i i
      have hc1 : chkE T N (.io i) s x = true := hc.1.2
      unfold chkE at hc1
      split at hc1
      · rename_i y pos
        simp only [Bool.and_eq_true] at hc1
        refine (pa_cons (pe_slot cx hc1.1 hc1.2) pr (noStar_each hc.1.1)).imp fun σ H Q ⟨G, O, env, S, g⟩ => ?_
        have g : Goo P σ H G ks O (mutsL (.io i :: r)) (fun xs _ H' O' => ∀ vs, Oprs P.K H' G ks O' σ (.io i :: r) xs vs → Q vs H') (bindR (undefd (gt env i) .bad (.ok .non env)) fun v e1 => bindR (evs P.C r e1) fun vs e2 => .ok (v :: vs) e2) := g
        by_cases z : gt env i = .undef
        · rw [z] at g; exact g.elim
        · rw [undefd_ne _ _ z] at g
          obtain ⟨v, h1, h2⟩ := S.slot i z
          refine ⟨v, h1, ?_⟩
          refine bindA (M := mutsL (.io i :: r)) S (fun _ h => app_r h) g fun zs env2 vs H2 O2 p2 o2 g2 => ?_
          exact g2.ok p2.st (v :: vs) ⟨.non, zs, v, vs, rfl, rfl, h1, o2⟩
      · cases hc1
theorem wfL_wfA : ∀ {l : List E}, wfL T ks l = true → wfA T ks l = true
  | [], _ => rfl
  | a :: r, h => by
    unfold wfL at h
    simp only [Bool.and_eq_true] at h
    unfold wfA
    rw [h.1, wfL_wfA h.2, Bool.or_true]
    rfl
theorem safeL_seqL : ∀ {l : List E}, safeL ks l = true → seqL ks l = true
  | [], _ => rfl
  | a :: r, h => by
    unfold safeL at h
    simp only [Bool.and_eq_true] at h
    unfold seqL
    rw [safeL_seqL h.2, Bool.and_true]
    unfold away
    have := h.1
    unfold safe at this
    rw [this]
    rfl
theorem chkL_len {l : List E} : ∀ {es : List Expr}, chkL T N l s es = true → es.length = l.length := by
  induction l with
  | nil =>
    intro es h
    cases es with
    | nil => rfl
    | cons _ _ => unfold chkL at h; cases h
  | cons a r ih =>
    intro es h
    cases es with
    | nil => unfold chkL at h; cases h
    | cons x xr =>
      unfold chkL at h
      simp only [Bool.and_eq_true] at h
      simp [ih h.2]
theorem len_line {n : Nat} (h : n ≤ 1000) : n ≤ sizeLine := Nat.le_trans h (by rw [sizeLine_eq]; decide)
theorem snd_tup {es : List E} (il : SndL T N k es) : Snd T N k (.tup es) := by
  intro X P s ks e cx hc hw
  unfold chkE at hc
  split at hc
  · rename_i xs x1 pos
    simp only [Bool.and_eq_true] at hc
    unfold wfE at hw
    simp only [Bool.and_eq_true] at hw
    refine Sd.of ((pe_tupF (x1 := x1) (pos := pos) (il X P s ks xs cx hc.1 (wfL_wfA hw.1) (safeL_seqL hw.2))).imp fun σ H Q ⟨G, O, env, S, g⟩ => ?_) (fun _ => rfl) rfl rfl
    rw [ev_tup] at g
    refine bindA (M := muts (.tup es)) S (fun _ h => h) g fun zs env1 vs H1 O1 p1 o1 g1 => ⟨?_, ?_⟩
    · rw [o1.length.2, ← chkL_len hc.1]
      exact len_line (Nat.le_of_ble_eq_true hc.2)
    · have hq : Hands P.K H1 G ks O1 env1 σ (.tup zs) Q := fun H' O' q v' n => g1 H' O' (q.mono fun _ z => nomatch z) v' (Opr.of n.vr)
      exact hq.tup p1.st (o1.vrs (wfL_noIos hw.1) hw.2)
  · cases hc
theorem newV_lst1 {K : PySem.W.Frag} {H0 H1 : Hp} {G : Addr → Prop} {ks : List Nat} {env : Env} {σ : L2.St} {O : Own} {x : Val} {v : V} {a : Addr} (n : NewV K H0 H1 G ks env σ O 1 x v) (h0 : H1 a = none) (hd : ∀ b, H1 b = none → H0 b = none) :
    NewV K H0 (upd H1 a (.lst [v])) G ks env σ O 2 (.lst [x]) (.ref a) := by
  obtain ⟨Ow, h1, h2, h3, h4⟩ := n
  have na : a ∉ Ow := fun z => by
    obtain ⟨xs, q⟩ := h1.there a z
    rw [h0] at q
    cases q
  have ex : Ext (fun _ => False) H1 (upd H1 a (.lst [v])) := ⟨fun b u e _ => by rw [upd_ne (ne_of_none e h0)]; exact e, fun _ z => z.elim⟩
  refine ⟨a :: Ow, .inl ⟨[x], a, [v], Ow, rfl, rfl, upd_same, rfl, v, [], Ow, [], rfl, (List.append_nil _).symm, ?_, rfl, rfl⟩, List.nodup_cons.mpr ⟨na, h2⟩, fun b hb => ?_, (h4.laidX h0).mono fun b hb => ⟨hb.1.1, fun z => ?_⟩⟩
  · refine h1.step ex (fun _ _ _ z => z) (fun b hb q => ⟨⟨q.1.1, fun z => ?_⟩, q.2⟩) fun _ _ z => z
    rcases List.mem_cons.mp z with e | e
    · rw [e] at hb; exact hb h0
    · exact q.1.2 e
  · rcases List.mem_cons.mp hb with e | e
    · subst e
      exact ⟨hd _ h0, (h4.fresh _ h0).1, h4.out h0⟩
    · exact h3 b e
  · rcases List.mem_cons.mp z with e | e
    · exact hb.2 (List.mem_singleton.mpr e)
    · exact hb.1.2 e
theorem snd_lst {es : List E} (il : SndL T N k es) (is : ∀ a, a ∈ es → Snd T N k a) : Snd T N k (.lst es) := by
  intro X P s ks e cx hc hw
  unfold chkE at hc
  split at hc
  · rename_i xs pos
    simp only [Bool.and_eq_true] at hc
    unfold wfE at hw
    simp only [Bool.and_eq_true] at hw
    have pe1 : PE X (.List xs pos) (rdF P ks (.lst es) 1) := (pe_lst (pos := pos) (il X P s ks xs cx hc.1 (wfL_wfA hw.1) (safeL_seqL hw.2))).imp fun σ H Q ⟨G, O, env, S, g⟩ => by
      rw [ev_lst] at g
      refine bindA (M := muts (.lst es)) S (fun _ h => h) g fun zs env1 vs H1 O1 p1 o1 g1 => ⟨?_, ?_⟩
      · rw [o1.length.2, ← chkL_len hc.1]
        exact len_line (Nat.le_of_ble_eq_true hc.2)
      · have hq : Hands P.K H1 G ks O1 env1 σ (.lst zs) Q := fun H' O' q v' n => g1 H' O' (q.mono fun _ z => nomatch z) v' (n.down p1)
        exact fun p hp => hq.lst p1.st (o1.vrs (wfL_noIos hw.1) hw.2) p hp
    cases h1 : oneL es with
    | false => exact Sd.ofF pe1 (fun _ => rfl) rfl (by unfold fr; rw [h1]; rfl)
    | true =>
      have hf : fr T ks (.lst es) = 2 := by unfold fr; rw [h1]; rfl
      refine ⟨pe_ofF pe1, pt_of (pe_ofF pe1) (fun _ => rfl), not_bool rfl, fun d hd1 hd2 => ?_⟩
      rw [hf] at hd2
      have hd : d = 1 ∨ d = 2 := by omega
      rcases hd with e | e
      · subst e; exact pe1
      · subst e
        match es, h1, is, hc, hw with
        | [.lst es1], _, is, hc, hw =>
          have hev : ∀ env, ev P.C (.lst [.lst es1]) env = bindR (bindR (ev P.C (.lst es1) env) fun v e1 => bindR (evs P.C [] e1) fun vs e2 => .ok (v :: vs) e2) fun vs e2 => .ok (.lst vs) e2 := fun _ => rfl
          cases xs with
          | nil => exact absurd hc.1 (by unfold chkL; exact fun z => nomatch z)
          | cons x xr =>
            have hc1 := hc.1
            unfold chkL at hc1
            simp only [Bool.and_eq_true] at hc1
            obtain ⟨⟨c1, c2⟩, c3⟩ := hc1
            cases xr with
            | cons _ _ => unfold chkL at c3; cases c3
            | nil =>
              have hw1 := hw.1
              unfold wfL at hw1
              simp only [Bool.and_eq_true] at hw1
              have sd := is (.lst es1) (by simp) X P s ks x cx c2 hw1.1
              have fp : 1 ≤ fr T ks (.lst es1) := by unfold fr; split <;> omega
              refine (pe_lst (pos := pos) (pa_cons (sd.pf 1 (Nat.le_refl _) fp) pa_nil (noStar_each c1))).imp fun σ H Q ⟨G, O, env, S, g⟩ => ⟨G, O, env, S, ?_⟩
              cases hx : ev P.C (.lst es1) env with
              | bad =>
                rw [hev, hx] at g
                exact g.elim
              | exc y e =>
                rw [hev, hx] at g
                exact fun cls d H' O' p => g cls d H' O' (p.mono fun _ h => app_l h)
              | ok z e1 =>
                rw [hev, hx] at g
                intro H1 O1 p1 v n
                refine ⟨len_line (by simp), fun p hp => ?_⟩
                exact g _ O1 ((p1.mono (M1 := muts (.lst [.lst es1])) fun _ h => app_l h).trans (Pst.laid p1.st hp)) (.ref p) (newV_lst1 n hp p1.dom)
  · cases hc

/-! ### built-ins -/
theorem blt_of (cx : Ctx T N k X P s) {x : Str} (h : blt T s x = true) : Gl X x ∧ X.mg x = none ∧ okName x = true := by
  unfold blt at h
  simp only [Bool.and_eq_true] at h
  obtain ⟨h1, h2⟩ := isGl_of cx h.1
  exact ⟨h1, cx.blt x h.2, h2⟩
theorem boot_bi (b : Bi) : bootBuiltins (biName b) = some (biVal b) := by
  cases b <;> first | decide +kernel | (rename_i t; cases t <;> decide +kernel) | (show bootBuiltins "isinstance" = some (.builtin "isinstance"); decide +kernel)
theorem boot_ty (t : Ty) : bootBuiltins (tyName t) = some (.type (tyStr t)) := by
  cases t <;> decide +kernel
theorem pe_bi {b : Bi} {x : Expr} {xs : List Expr} {p pos : Pos} {t : TA} (cx : Ctx T N k X P s) (h : blt T s (biName b) = true) (ha : PA X (x :: xs) t) (he : starEach (x :: xs) X.env = (false, eval x X.env) :: starEach xs X.env)
    (hpl : (backTo pos (starEach xs X.env)).any (·.1) = false) : PE X (.Call (.Name (biName b) p) (x :: xs) [] pos) (tCB (rBi X.K b) t) := by
  obtain ⟨h1, h2, h3⟩ := blt_of cx h
  obtain ⟨n1, n2, n3⟩ := okName_of h3
  have hc := call_bi (X := X) cx.calm (units_of cx) b
  have hv := boot_bi b
  revert hc hv
  generalize hb : biVal b = f
  intro hc hv
  cases f <;> first | (cases b <;> first | (cases hb; done) | (rename_i t; cases t <;> cases hb); done) | skip
  · exact pe_callTy hc h1 h2 hv ha n3 n1 he hpl
  · exact pe_callB hc h1 h2 hv ha n3 n1 he hpl
theorem bifn_nil (b : Bi) : bifn b [] = none := by cases b <;> rfl

theorem Oprs.ofNil {H : Hp} {G : Addr → Prop} {O : Own} {σ : L2.St} {xs : List Val} {vs : List V} {K : PySem.W.Frag} (h : Oprs K H G ks O σ [] xs vs) : xs = [] := h.1
theorem no_bi {b : Bi} {σ : L2.St} {H : Hp} {Q : VK} (h : rdP P ks (.bi b []) σ H Q) : False := by
  obtain ⟨G, O, env, S, g⟩ := h
  rw [ev_bi] at g
  have g : Goo P σ H G ks O (muts (.bi b [])) (fun x _ H' O' => ∀ v, Opr P.K H' G O' (ud ks (.bi b [])) (root (.bi b [])) x v → Q v H') (ofO (bifn b []) env) := g
  rw [bifn_nil] at g
  exact g
theorem no_biF {b : Bi} {d : Nat} {σ : L2.St} {H : Hp} {Q : VK} (h : rdF P ks (.bi b []) d σ H Q) : False := by
  obtain ⟨G, O, env, S, g⟩ := h
  rw [ev_bi] at g
  have g : Goo P σ H G ks O (muts (.bi b [])) (fun x e' H' O' => ∀ v, NewV P.K H H' G ks e' σ O' d x v → Q v H') (ofO (bifn b []) env) := g
  rw [bifn_nil] at g
  exact g
theorem bi_fr (b : Bi) (es : List E) : fr T ks (.bi b es) ≤ 1 := by cases b <;> first | exact Nat.le_refl _ | exact Nat.zero_le _
theorem bi_flat {b : Bi} {es : List E} (h : (flatL ks es || (match b, es with | .list, [a] => Nat.beq (ud ks a) 3 | _, _ => false)) = true) : flatL ks es = true ∨ (b = .list ∧ ∃ a, es = [a] ∧ ud ks a = 3) := by
  rcases Bool.or_eq_true_iff.mp h with h | h
  · exact .inl h
  · split at h
    · exact .inr ⟨rfl, _, rfl, Nat.eq_of_beq_eq_true h⟩
    · cases h
theorem snd_bi0 {b : Bi} {es : List E} (hi : ∀ t, b ≠ .isinst t) (hr : ∀ t, b ≠ .rg t) (hst : ∀ t, b ≠ .st t) (il : SndL T N k es) {x : Str} {xs : List Expr} {p pos : Pos} (cx : Ctx T N k X P s) (hx : x = biName b) (hb : blt T s x = true) (hc : chkL T N es s xs = true) (hw : wfE T ks (.bi b es) = true) : Sd T X P ks (.bi b es) (.Call (.Name x p) xs [] pos) := by
  subst hx
  unfold wfE at hw
  simp only [Bool.and_eq_true] at hw
  obtain ⟨⟨w1, w2⟩, w3⟩ := hw
  cases es with
  | nil =>
    have key : ∀ t : TE, (∀ σ H Q, ¬ t σ H Q) → PE X (.Call (.Name (biName b) p) xs [] pos) t := fun t h => ⟨fun _ _ σ H Q _ q => absurd q (h σ H Q)⟩
    have k1 := key (rdP P ks (.bi b [])) fun σ H Q h => no_bi h
    exact ⟨k1, pt_of k1 (fun _ => rfl), not_bool rfl, fun d _ _ => key _ fun σ H Q h => no_biF h⟩
  | cons a r =>
    cases xs with
    | nil => unfold chkL at hc; cases hc
    | cons y yr =>
      have hc' := hc
      unfold chkL at hc'
      simp only [Bool.and_eq_true] at hc'
      have key : PE X (.Call (.Name (biName b) p) (y :: yr) [] pos) (rdF P ks (.bi b (a :: r)) 1) := (pe_bi cx hb (il X P s ks _ cx hc (wfL_wfA w1) w3) (noStar_each hc'.1.1) (chkL_plain hc'.2).1).imp fun σ H Q ⟨G, O, env, S, g⟩ => by
        rw [ev_bi] at g
        refine bindA (M := muts (.bi b (a :: r))) S (fun _ h => h) g fun zs env1 vs H1 O1 p1 o1 g1 => ?_
        obtain ⟨z, hz, hg⟩ := g1.ofO
        rw [cx.K]
        exact bi_ok p1.st (wfL_noIos w1) (bi_flat w2) o1 hi hr hst hz fun H' O' q v' n => hg H' O' (q.mono fun _ z => nomatch z) v' (n.down p1)
      refine ⟨pe_ofF key, pt_of (pe_ofF key) (fun _ => rfl), not_bool rfl, fun d h1 h2 => ?_⟩
      have e : d = 1 := by have := bi_fr (T := T) (ks := ks) b (a :: r); omega
      subst e
      exact key
theorem sndL_of : ∀ {l : List E}, (∀ a, a ∈ l → Snd T N k a) → SndL T N k l
  | [], _ => sndL_nil
  | a :: r, h => sndL_cons (h a List.mem_cons_self) (sndL_of fun b hb => h b (List.mem_cons_of_mem _ hb))
theorem rCon_isi {t : Ty} {b : Bool} {es : List E} {xs : List Val} {σ : L2.St} {H : Hp} {G : Addr → Prop} {O : Own} {a : E} {x : Val} {v : V} {Q : VK} {K : PySem.W.Frag} (o : Opr K H G O (ud ks a) (root a) x v) (hz : isTy t x = some b) (q : Q (.bl b) H) : rIsi K [v, .ty (tyStr t)] H Q := by
  obtain ⟨h1, rfl⟩ := isTy_some hz
  refine ⟨v, .ty (tyStr t), .type (knStr (kindOf x)), .type (tyStr t), _, rfl, .ty _, tyx_of o h1, ?_, q⟩
  exact kit_ty (kit_tab t _ h1)
theorem snd_isi {t : Ty} {es : List E} (il : ∀ a, a ∈ es → Snd T N k a) {x z : Str} {y : Expr} {p p2 pos : Pos} (cx : Ctx T N k X P s) (hx : x = "isinstance") (hb : blt T s x = true) (hz : z = tyName t) (hb2 : blt T s z = true) (hc : chkL T N es s [y] = true) (hw : wfE T ks (.bi (.isinst t) es) = true) :
    Sd T X P ks (.bi (.isinst t) es) (.Call (.Name x p) [y, .Name z p2] [] pos) := by
  subst hx hz
  unfold wfE at hw
  simp only [Bool.and_eq_true] at hw
  obtain ⟨⟨w1, w2⟩, w3⟩ := hw
  obtain ⟨h1, h2, h3⟩ := blt_of cx hb
  obtain ⟨n1, n2, n3⟩ := okName_of h3
  obtain ⟨h1', h2', h3'⟩ := blt_of cx hb2
  obtain ⟨n1', n2', n3'⟩ := okName_of h3'
  cases es with
  | nil => unfold chkL at hc; cases hc
  | cons a r =>
    cases r with
    | cons a2 r2 => unfold chkL chkL at hc; simp at hc
    | nil =>
      unfold chkL at hc
      simp only [Bool.and_eq_true] at hc
      have w1a : wfE T ks a = true := by unfold wfL at w1; exact (Bool.and_eq_true_iff.mp w1).1
      have da := il a List.mem_cons_self X P s ks y cx hc.1.2 w1a
      have pb : PE X (.Name (tyName t) p2) (tC (.ty (tyStr t))) := pe_bltn h1' h2' (boot_ty t) rfl n3' n1'
      have pa := pa_cons da.pe (pa_cons pb pa_nil) (noStar_each hc.1.1)
      refine Sd.of ((pe_callB (pos := pos) call_isi h1 h2 (by decide +kernel) pa n3 n1 (noStar_each hc.1.1) rfl).imp fun σ H Q ⟨G, O, env, S, g⟩ => ?_) (fun _ => rfl) rfl rfl
      rw [ev_bi] at g
      have g : Goo P σ H G ks O (muts (.bi (.isinst t) [a])) (fun x _ H' O' => ∀ v, Opr P.K H' G O' (ud ks (.bi (.isinst t) [a])) (root (.bi (.isinst t) [a])) x v → Q v H') (bindR (bindR (ev P.C a env) fun v e1 => bindR (evs P.C [] e1) fun vs e2 => .ok (v :: vs) e2) fun vs e1 => ofO (bifn (.isinst t) vs) e1) := g
      have g : Goo P σ H G ks O (muts (.bi (.isinst t) [a])) (fun x _ H' O' => ∀ v, Opr P.K H' G O' (ud ks (.bi (.isinst t) [a])) (root (.bi (.isinst t) [a])) x v → Q v H') (bindR (ev P.C a env) fun v e1 => ofO (bifn (.isinst t) [v]) e1) := by
        cases q : ev P.C a env <;> rw [q] at g <;> exact g
      refine bindP (M := muts (.bi (.isinst t) [a])) S (fun _ h => app_l h) g fun z env1 v H1 O1 p1 o1 g1 => ?_
      obtain ⟨w, hz, hg⟩ := g1.ofO
      have hz : omap Val.bl (isTy t z) = some w := hz
      obtain ⟨b, hb, rfl⟩ := omap_eq hz
      rw [cx.K]
      exact rCon_isi (xs := []) (es := []) (σ := σ) o1 hb (hg H1 O1 (Pst.refl p1.st) _ (Opr.of rfl))
/-! ### list(range(..)), tuple(range(..)) -/
theorem rgV_up (a b : Int) : (upFrom a (b - a).toNat).length = (rgV a b).length := by
  rw [rgV_length]
  generalize (b - a).toNat = n
  induction n generalizing a with
  | zero => rfl
  | succ n ih => show (upFrom (a + 1) n).length + 1 = _; rw [ih]
theorem vrs_up {K : PySem.W.Frag} {H : Hp} {A : Addr → Prop} : ∀ (n : Nat) (a : Int), VRs K H A (upFrom a n) ((List.range n).map fun (i : Nat) => V.int (a + (i : Nat)))
  | 0, a => rfl
  | n + 1, a => by
    rw [List.range_succ_eq_map, List.map_cons, List.map_map]
    refine ⟨_, _, rfl, ?_, ?_⟩
    · show V.int (a + ((0 : Nat) : Int)) = V.int a
      rw [show ((0 : Nat) : Int) = 0 from rfl, Int.add_zero]
    · have q := vrs_up (K := K) (H := H) (A := A) n (a + 1)
      have e : ((fun (i : Nat) => V.int (a + (i : Nat))) ∘ Nat.succ) = fun (i : Nat) => V.int (a + 1 + (i : Nat)) := by
        funext i
        show V.int (a + ((i + 1 : Nat) : Int)) = _
        congr 1
        omega
      rw [e]
      exact q
theorem rng_ok {a b : Int} {xs : List Val} (h : (if rng a && rng b && Nat.ble (b - a).toNat LIM then some (upFrom a (b - a).toNat) else none) = some xs) : RgOk a b ∧ xs = upFrom a (b - a).toNat := by
  split at h
  · rename_i q
    unfold rng at q
    simp only [Bool.and_eq_true, decide_eq_true_eq] at q
    have q2 := Nat.le_of_ble_eq_true q.2
    have hl : LIM = 16000000 := rfl
    cases h
    exact ⟨⟨by omega, by omega, by omega, by omega, by omega⟩, rfl⟩
  · cases h
theorem snd_rg {t : Bool} {es : List E} (il : ∀ a, a ∈ es → Snd T N k a) {x y : Str} {xs : List Expr} {p p2 pos pos2 : Pos} (cx : Ctx T N k X P s) (hx : x = biName (.rg t)) (hb : blt T s x = true) (hy : y = "range") (hb2 : blt T s y = true) (hc : chkL T N es s xs = true) (hl : es.length ≤ 2) (hw : wfE T ks (.bi (.rg t) es) = true) :
    Sd T X P ks (.bi (.rg t) es) (.Call (.Name x p) [.Call (.Name y p2) xs [] pos2] [] pos) := by
  subst hx hy
  unfold wfE at hw
  simp only [Bool.and_eq_true] at hw
  obtain ⟨⟨w1, w2⟩, w3⟩ := hw
  obtain ⟨h1, h2, h3⟩ := blt_of cx hb
  obtain ⟨h1', h2', h3'⟩ := blt_of cx hb2
  have mk : ∀ {σ : L2.St} {H1 : Hp} {G : Addr → Prop} {O1 : Own} {env1 : Env} {Q : VK} {zs : List Val} {i j : Int}, Stt P.K H1 G ks env1 σ O1 → rangeV2 zs = (if rng i && rng j && Nat.ble (j - i).toNat LIM then some (upFrom i (j - i).toNat) else none) →
      (∃ w, bifn (.rg t) zs = some w ∧ Hands P.K H1 G ks O1 env1 σ w Q) → RgOk i j ∧ ((t = false ∧ ∀ q, H1 q = none → Q (.ref q) (upd H1 q (.lst (rgV i j)))) ∨ (t = true ∧ Nt H1 (rgV i j) Q)) := fun S hr ⟨w, hz, hq⟩ => by
    have hz' : omap (rgMk t) (rangeV2 _) = some w := hz
    obtain ⟨us, hus, rfl⟩ := omap_eq hz'
    rw [hr] at hus
    obtain ⟨ok, rfl⟩ := rng_ok hus
    refine ⟨ok, ?_⟩
    cases t with
    | false => exact .inl ⟨rfl, fun q hq' => hq.lst S (vrs_up _ _) q hq'⟩
    | true => exact .inr ⟨rfl, hq.tup S (vrs_up _ _)⟩
  cases es with
  | nil =>
    have hk : ∀ t' : TE, (∀ σ H Q, ¬ t' σ H Q) → PE X (.Call (.Name (biName (.rg t)) p) [.Call (.Name "range" p2) xs [] pos2] [] pos) t' := fun t' h => ⟨fun _ _ σ H Q _ q => absurd q (h σ H Q)⟩
    have k1 := hk (rdP P ks (.bi (.rg t) [])) fun σ H Q h => no_bi h
    exact ⟨k1, pt_of k1 (fun _ => rfl), not_bool rfl, fun d _ _ => hk _ fun σ H Q h => no_biF h⟩
  | cons a r =>
    cases xs with
    | nil => unfold chkL at hc; cases hc
    | cons x xr =>
      unfold chkL at hc
      simp only [Bool.and_eq_true] at hc
      unfold wfL at w1
      simp only [Bool.and_eq_true] at w1
      have da := il a List.mem_cons_self X P s ks x cx hc.1.2 w1.1
      cases r with
      | nil =>
        cases xr with
        | cons x2 xr => have hc2 := hc.2; unfold chkL at hc2; cases hc2
        | nil =>
          refine Sd.ofF ((pe_rgF (pos := pos) (p := p) (t := t) cx.calm h1 h2 (prg_1 (pos := pos2) (p := p2) h1' h2' da.pe (noStar_each hc.1.1))).imp fun σ H Q ⟨G, O, env, S, g⟩ => ?_) (fun _ => rfl) rfl rfl
          rw [ev_bi] at g
          have g : Goo P σ H G ks O (muts (.bi (.rg t) [a])) (fun x e' H' O' => ∀ v, NewV P.K H H' G ks e' σ O' 1 x v → Q v H') (bindR (ev P.C a env) fun v e1 => ofO (bifn (.rg t) [v]) e1) := by
            have e : vBi (.rg t) (evs P.C [a]) env = bindR (ev P.C a env) fun v e1 => ofO (bifn (.rg t) [v]) e1 := by
              show bindR (bindR (ev P.C a env) fun v e1 => bindR (R.ok [] e1) fun vs e2 => R.ok (v :: vs) e2) _ = _
              cases ev P.C a env <;> rfl
            rw [e] at g
            exact g
          refine bindP (M := muts (.bi (.rg t) [a])) S (fun _ h => app_l h) g fun z env1 v H1 O1 p1 o1 g1 => ?_
          obtain ⟨w, hz, hg⟩ := g1.ofO
          have hint : ∃ n, z = .int n := by
            have hz : omap (rgMk t) (rangeV [z]) = some w := hz
            cases z <;> first | exact ⟨_, rfl⟩ | (cases hz)
          obtain ⟨n, rfl⟩ := hint
          refine ⟨n, o1.int, ?_⟩
          refine mk p1.st (zs := [.int n]) ?_ ⟨w, hz, fun H' O' q v' n => hg H' O' (q.mono fun _ z => nomatch z) v' (n.down p1)⟩
          show (if rng n && Nat.ble n.toNat LIM then some (upFrom 0 n.toNat) else none) = _
          rw [Int.sub_zero, show rng 0 = true from by decide, Bool.true_and]
      | cons b r =>
        cases xr with
        | nil => have hc2 := hc.2; unfold chkL at hc2; cases hc2
        | cons y xr =>
          have hc2 := hc.2
          unfold chkL at hc2
          simp only [Bool.and_eq_true] at hc2
          have w12 := w1.2
          unfold wfL at w12
          simp only [Bool.and_eq_true] at w12
          have db := il b (List.mem_cons_of_mem _ List.mem_cons_self) X P s ks y cx hc2.1.2 w12.1
          cases r with
          | cons c r =>
            simp only [List.length_cons] at hl
            omega
          | nil =>
            cases xr with
            | cons x2 xr => have hc3 := hc2.2; unfold chkL at hc3; cases hc3
            | nil =>
              refine Sd.ofF ((pe_rgF (pos := pos) (p := p) (t := t) cx.calm h1 h2 (prg_2 (pos := pos2) (p := p2) h1' h2' da.pe db.pe (noStar_each hc.1.1) (noStar_each hc2.1.1) (chkL_plain hc.2).1)).imp fun σ H Q ⟨G, O, env, S, g⟩ => ?_) (fun _ => rfl) rfl rfl
              rw [ev_bi] at g
              have g : Goo P σ H G ks O (muts (.bi (.rg t) [a, b])) (fun x e' H' O' => ∀ v, NewV P.K H H' G ks e' σ O' 1 x v → Q v H') (bindR (ev P.C a env) fun v e1 => bindR (ev P.C b e1) fun u e2 => ofO (bifn (.rg t) [v, u]) e2) := by
                have e : vBi (.rg t) (evs P.C [a, b]) env = bindR (ev P.C a env) fun v e1 => bindR (ev P.C b e1) fun u e2 => ofO (bifn (.rg t) [v, u]) e2 := by
                  show bindR (bindR (ev P.C a env) fun v e1 => bindR (bindR (ev P.C b e1) fun u e2 => bindR (R.ok [] e2) fun vs e3 => R.ok (u :: vs) e3) fun vs e2 => R.ok (v :: vs) e2) _ = _
                  cases ev P.C a env with
                  | ok v e1 =>
                    show bindR (bindR (bindR (ev P.C b e1) _) _) _ = bindR (ev P.C b e1) _
                    cases ev P.C b e1 <;> rfl
                  | exc _ _ => rfl
                  | bad => rfl
                rw [e] at g
                exact g
              refine bindP (M := muts (.bi (.rg t) [a, b])) S (fun _ h => app_l h) g fun z env1 v H1 O1 p1 o1 g1 => ?_
              refine bindP (M := muts (.bi (.rg t) [a, b])) p1.st (fun _ h => app_r (app_l h)) g1 fun z2 env2 v2 H2 O2 p2 o2 g2 => ?_
              obtain ⟨w, hz, hg⟩ := g2.ofO
              have hint : ∃ i j, z = .int i ∧ z2 = .int j := by
                have hz : omap (rgMk t) (rangeV [z, z2]) = some w := hz
                cases z <;> first | (cases z2 <;> first | exact ⟨_, _, rfl, rfl⟩ | (cases hz)) | (cases hz)
              obtain ⟨i, j, rfl, rfl⟩ := hint
              refine ⟨i, j, o1.int, o2.int, ?_⟩
              exact mk p2.st (zs := [.int i, .int j]) rfl ⟨w, hz, fun H' O' q v' n => hg H' O' (q.mono fun _ z => nomatch z) v' ((n.down p2).down p1)⟩
/-! ### sorted(set(..)), len(set(..)) -/
theorem snd_st {t : Bool} {es : List E} (il : ∀ a, a ∈ es → Snd T N k a) {x y : Str} {z : Expr} {p p2 pos pos2 : Pos} (cx : Ctx T N k X P s) (hx : x = biName (.st t)) (hb : blt T s x = true) (hy : y = "set") (hb2 : blt T s y = true) (hc : chkL T N es s [z] = true) (hw : wfE T ks (.bi (.st t) es) = true) :
    Sd T X P ks (.bi (.st t) es) (.Call (.Name x p) [.Call (.Name y p2) [z] [] pos2] [] pos) := by
  subst hx hy
  unfold wfE at hw
  simp only [Bool.and_eq_true] at hw
  obtain ⟨⟨w1, w2⟩, w3⟩ := hw
  have w2 : flatL ks es = true := by simpa using w2
  obtain ⟨h1, h2, h3⟩ := blt_of cx hb
  obtain ⟨h1', h2', h3'⟩ := blt_of cx hb2
  cases es with
  | nil => unfold chkL at hc; cases hc
  | cons a r =>
    cases r with
    | cons a2 r2 => unfold chkL chkL at hc; simp at hc
    | nil =>
      unfold chkL at hc
      simp only [Bool.and_eq_true] at hc
      have w1a : wfE T ks a = true := by unfold wfL at w1; exact (Bool.and_eq_true_iff.mp w1).1
      have da := il a List.mem_cons_self X P s ks z cx hc.1.2 w1a
      refine Sd.ofF ((pe_set (pos := pos) (p := p) (p2 := p2) (q := pos2) (t := t) cx.calm h1 h2 h1' h2' da.pe (noStar_each hc.1.1)).imp fun σ H Q ⟨G, O, env, S, g⟩ => ?_) (fun _ => rfl) rfl rfl
      rw [ev_bi] at g
      have g : Goo P σ H G ks O (muts (.bi (.st t) [a])) (fun x e' H' O' => ∀ v, NewV P.K H H' G ks e' σ O' 1 x v → Q v H') (bindR (ev P.C a env) fun v e1 => ofO (bifn (.st t) [v]) e1) := by
        have e : vBi (.st t) (evs P.C [a]) env = bindR (ev P.C a env) fun v e1 => ofO (bifn (.st t) [v]) e1 := by
          show bindR (bindR (ev P.C a env) fun v e1 => bindR (R.ok [] e1) fun vs e2 => R.ok (v :: vs) e2) _ = _
          cases ev P.C a env <;> rfl
        rw [e] at g
        exact g
      refine bindP (M := muts (.bi (.st t) [a])) S (fun _ h => app_l h) g fun z env1 v H1 O1 p1 o1 g1 => ?_
      obtain ⟨w, hz, hg⟩ := g1.ofO
      have hq : Hands P.K H1 G ks O1 env1 σ w Q := fun H' O' q v' n => hg H' O' (q.mono fun _ z => nomatch z) v' (n.down p1)
      have hz : obind (obind (seqOf z) intsV) (stV t) = some w := hz
      obtain ⟨ns, h4, h5⟩ := obind_eq hz
      obtain ⟨ys, h6, h7⟩ := obind_eq h4
      have hyy := ints_of h7
      subst hyy
      have h64 : ns.length < 64 ∧ stMk t (stI ns) = w := by
        unfold stV at h5
        split at h5
        · rename_i q
          have := Nat.le_of_ble_eq_true q
          cases h5
          exact ⟨by omega, rfl⟩
        · cases h5
      obtain ⟨h64, rfl⟩ := h64
      have last : ∀ l : List Int, l.Pairwise (· < ·) → (∀ k : Int, k ∈ l ↔ k ∈ ns) → ((t = false ∧ ∀ q, H1 q = none → Q (.ref q) (upd H1 q (.lst (l.map V.int)))) ∨ (t = true ∧ Q (.int (l.length : Nat)) H1)) := fun l l1 l2 => by
        have el := stI_of l1 l2
        subst el
        cases t with
        | false => exact .inl ⟨rfl, fun q hq' => hq.lst p1.st VRs.ofInts q hq'⟩
        | true => exact .inr ⟨rfl, hq.same p1.st rfl⟩
      rcases seqOf_some h6 with hx | hx
      · subst hx
        obtain ⟨b, ws, rfl, tt, r⟩ := o1.lst (flat1 w2)
        have hw := r.ints
        subst hw
        exact ⟨b, ns, rfl, .inl (by rw [cx.K]; exact SqL.of tt), h64, last⟩
      · subst hx
        obtain ⟨b, ws, rfl, tt, r⟩ := o1.tup
        have hw := r.ints
        subst hw
        exact ⟨b, ns, rfl, .inr (by rw [cx.K]; exact tt.sqt), h64, last⟩
theorem snd_bi {b : Bi} {es : List E} (il : ∀ a, a ∈ es → Snd T N k a) : Snd T N k (.bi b es) := by
  intro X P s ks e cx hc hw
  unfold chkE at hc
  split at hc
  · rename_i t
    split at hc
    · rename_i x p y z p2 pos
      simp only [Bool.and_eq_true] at hc
      exact snd_isi il cx (eq_of_beq hc.1.1.1.1) hc.1.1.1.2 (eq_of_beq hc.1.1.2) hc.1.2 hc.2 hw
    · cases hc
  · rename_i t
    split at hc
    · rename_i x p y p2 xs pos2 pos
      simp only [Bool.and_eq_true] at hc
      exact snd_rg il cx (eq_of_beq hc.1.1.1.1.1) hc.1.1.1.1.2 (eq_of_beq hc.1.1.1.2) hc.1.1.2 hc.1.2 (Nat.le_of_ble_eq_true hc.2) hw
    · cases hc
  · rename_i t
    split at hc
    · rename_i x p y p2 z pos2 pos
      simp only [Bool.and_eq_true] at hc
      exact snd_st il cx (eq_of_beq hc.1.1.1.1) hc.1.1.1.2 (eq_of_beq hc.1.1.2) hc.1.2 hc.2 hw
    · cases hc
  · rename_i b' nb nr ns
    split at hc
    · rename_i x p xs pos
      simp only [Bool.and_eq_true] at hc
      exact snd_bi0 (fun t h => nb t h) (fun t h => nr t h) (fun t h => ns t h) (sndL_of il) cx (eq_of_beq hc.1.1) hc.1.2 hc.2 hw
    · cases hc
end
end Mp
set_option Elab.async false
set_option linter.all false
set_option maxRecDepth 10000
/-! # Mp: an owned list is changed; pop; methods. -/
namespace Mp
open PySem PySem.Spec PyProof.Rows L2

/-! ### slots -/
theorem gt_st : ∀ (e : Env) (i j : Nat) (x : Val), gt (st e i x) j = if j = i ∧ i < e.length then x else gt e j
  | [], i, j, x => by simp
  | u :: r, 0, 0, x => by simp
  | u :: r, 0, j + 1, x => by simp
  | u :: r, i + 1, 0, x => by simp
  | u :: r, i + 1, j + 1, x => by
    rw [st_succ, gt_succ, gt_succ, gt_st r i j x]
    simp
theorem gt_lt : ∀ {e : Env} {i : Nat}, gt e i ≠ .undef → i < e.length
  | [], i, h => absurd rfl h
  | u :: r, 0, _ => Nat.succ_pos _
  | u :: r, i + 1, h => Nat.succ_lt_succ (gt_lt (e := r) h)
theorem st_len : ∀ (e : Env) (i : Nat) (x : Val), (st e i x).length = e.length
  | [], _, _ => rfl
  | _ :: _, 0, _ => rfl
  | _ :: r, i + 1, x => by rw [st_succ, List.length_cons, st_len r i x, List.length_cons]
/-- slot i owns l -/
def ow (O : Own) (i : Nat) (l : List Addr) : Own := fun j => if j = i then l else O j
theorem ow_same (O : Own) (i : Nat) (l : List Addr) : ow O i l i = l := if_pos rfl
theorem ow_ne (O : Own) {i j : Nat} (l : List Addr) (h : j ≠ i) : ow O i l j = O j := if_neg h
section
variable {K : PySem.W.Frag} {H H' : Hp} {G : Addr → Prop} {ks : List Nat} {O : Own} {env : Env} {σ : L2.St} {i : Nat} {v : V} {x' : Val} {l : List Addr}
/-- what lies outside slot i's lists stays where it may -/
theorem aa_ow (S : Stt K H G ks env σ O) (hn : ∀ a, a ∈ l → a ∈ O i ∨ H a = none) {a : Addr} (h0 : H a ≠ none) (h : AA G O a) : AA G (ow O i l) a := ⟨h.1, fun j z => by
  unfold ow at z
  split at z
  · rcases hn a z with q | q
    · exact h.2 i q
    · exact h0 q
  · exact h.2 j z⟩
theorem Pst.put (S : Stt K H G ks env σ O) (hi : gt env i ≠ .undef) (hv : σ[i]? = some (some v)) (ext : ∀ a o, H a = some o → a ∉ O i → H' a = some o) (dom : ∀ a, H' a = none → H a = none)
    (hn : ∀ a, a ∈ l → a ∈ O i ∨ H a = none) (nd : l.Nodup) (so : SO K H' (AA G (ow O i l)) (kd ks i) x' v l) (hx : x' ≠ .undef) : Pst K H G ks O [i] (Mp.st env i x') σ H' (ow O i l) := by
  have hlt := gt_lt hi
  have ex : Ext (fun a => a ∈ O i) H H' := ⟨ext, fun a h => S.there h⟩
  refine ⟨fun a o h n => ext a o h (n i (by simp)), dom, fun j hj => ow_ne O l (by simpa using hj), fun j a h => ?_, fun j z => ?_, fun j z => ?_, fun j => ?_, fun j k a hj hk => ?_, fun j a h => ?_, fun a h => S.fresh a (dom a h), by rw [st_len]; exact S.len⟩
  · unfold ow at h
    split at h
    · rename_i e
      subst e
      exact hn a h
    · exact .inl h
  · rw [gt_st] at z ⊢
    by_cases e : j = i
    · subst e
      rw [if_pos ⟨rfl, hlt⟩, ow_same]
      exact ⟨v, hv, so⟩
    · rw [if_neg (fun q => e q.1)] at z ⊢
      rw [ow_ne O l e]
      obtain ⟨w, h1, h2⟩ := S.slot j z
      refine ⟨w, h1, h2.step ex (fun a _ ha q => ha.2 i q) (fun a h0 ha => aa_ow S hn h0 ha) fun a ha q => e (S.dj j i a ha q)⟩
  · rw [gt_st] at z
    by_cases e : j = i
    · subst e
      rw [if_pos ⟨rfl, hlt⟩] at z
      exact absurd z hx
    · rw [if_neg (fun q => e q.1)] at z
      rw [ow_ne O l e]
      exact S.emp j z
  · unfold ow
    split
    · exact nd
    · exact S.nd j
  · unfold ow at hj hk
    split at hj <;> split at hk
    · rename_i e1 e2
      rw [e1, e2]
    · rename_i e1 e2
      rcases hn a hj with q | q
      · rw [e1]; exact S.dj i k a q hk
      · exact absurd hk (S.out q k)
    · rename_i e1 e2
      rcases hn a hk with q | q
      · rw [e2]; exact S.dj j i a hj q
      · exact absurd hj (S.out q j)
    · exact S.dj j k a hj hk
  · unfold ow at h
    split at h
    · rcases hn a h with q | q
      · exact S.own i a q
      · exact S.fresh a q
    · exact S.own j a h
end
/-! ### items owned -/
theorem Sp3.erase {Pr : Val → V → List Addr → Prop} : ∀ {xs : List Val} {vs : List V} {O : List Addr} {j : Nat} {y : Val}, Sp3 Pr xs vs O → xs[j]? = some y → ∃ w O1 O2, vs[j]? = some w ∧ Pr y w O2 ∧ Sp3 Pr (xs.eraseIdx j) (vs.eraseIdx j) O1 ∧ O.Perm (O2 ++ O1)
  | [], _, _, _, _, _, h => by simp at h
  | x :: xs, _, _, 0, y, ⟨v, r, O1, O2, e1, e2, p, t⟩, h => by
    subst e1 e2
    simp at h
    subst h
    exact ⟨v, O2, O1, rfl, p, t, .refl _⟩
  | x :: xs, _, _, j + 1, y, ⟨v, r, O1, O2, e1, e2, p, t⟩, h => by
    subst e1 e2
    obtain ⟨w, A1, A2, h1, h2, h3, h4⟩ := Sp3.erase (j := j) t (by simpa using h)
    refine ⟨w, O1 ++ A1, A2, by simpa using h1, h2, ⟨v, _, O1, A1, rfl, rfl, p, h3⟩, ?_⟩
    have q : (O1 ++ O2).Perm (O1 ++ (A2 ++ A1)) := h4.append_left O1
    refine q.trans ?_
    rw [← List.append_assoc, ← List.append_assoc]
    exact (List.perm_append_comm).append_right A1
theorem Sp3.set {Pr : Val → V → List Addr → Prop} {z : Val} {u : V} {Oz : List Addr} (hz : Pr z u Oz) : ∀ {xs : List Val} {vs : List V} {O : List Addr} {j : Nat} {y : Val}, Sp3 Pr xs vs O → xs[j]? = some y → ∃ w O1 O2 O3, vs[j]? = some w ∧ Pr y w O2 ∧ Sp3 Pr (xs.set j z) (vs.set j u) O3 ∧ O.Perm (O2 ++ O1) ∧ O3.Perm (Oz ++ O1)
  | [], _, _, _, _, _, h => by simp at h
  | x :: xs, _, _, 0, y, ⟨v, r, O1, O2, e1, e2, p, t⟩, h => by
    subst e1 e2
    simp at h
    subst h
    exact ⟨v, O2, O1, Oz ++ O2, rfl, p, ⟨u, _, Oz, O2, rfl, rfl, hz, t⟩, .refl _, .refl _⟩
  | x :: xs, _, _, j + 1, y, ⟨v, r, O1, O2, e1, e2, p, t⟩, h => by
    subst e1 e2
    obtain ⟨w, A1, A2, A3, h1, h2, h3, h4, h5⟩ := Sp3.set hz (j := j) t (by simpa using h)
    refine ⟨w, O1 ++ A1, A2, O1 ++ A3, by simpa using h1, h2, ⟨v, _, O1, A3, rfl, rfl, p, h3⟩, ?_, ?_⟩
    · refine (h4.append_left O1).trans ?_
      rw [← List.append_assoc, ← List.append_assoc]
      exact (List.perm_append_comm).append_right A1
    · refine (h5.append_left O1).trans ?_
      rw [← List.append_assoc, ← List.append_assoc]
      exact (List.perm_append_comm).append_right A1
theorem Sp3.app {Pr : Val → V → List Addr → Prop} {z : Val} {u : V} {Oz : List Addr} (hz : Pr z u Oz) : ∀ {xs : List Val} {vs : List V} {O : List Addr}, Sp3 Pr xs vs O → Sp3 Pr (xs ++ [z]) (vs ++ [u]) (O ++ Oz)
  | [], _, _, ⟨e1, e2⟩ => by
    subst e1 e2
    exact ⟨u, [], Oz, [], rfl, by simp, hz, rfl, rfl⟩
  | x :: xs, _, _, ⟨v, r, O1, O2, e1, e2, p, t⟩ => by
    subst e1 e2
    exact ⟨v, _, O1, O2 ++ Oz, rfl, by rw [List.append_assoc], p, Sp3.app hz t⟩

/-! ### a list that a slot owns -/
section
variable {K : PySem.W.Frag} {H : Hp} {G : Addr → Prop} {ks : List Nat} {O : Own} {env : Env} {σ : L2.St} {i : Nat} {xs : List Val}
theorem slot_list (S : Stt K H G ks env σ O) (hk : 1 ≤ kd ks i) (h : gt env i = .lst xs) : ∃ a vs O' d, kd ks i = d + 1 ∧ σ[i]? = some (some (.ref a)) ∧ H a = some (.lst vs) ∧ O i = a :: O' ∧ Sp3 (OR K H (AA G O) d) xs vs O' ∧ d + 1 ≠ 3 := by
  obtain ⟨v, h1, h2⟩ := S.slot i (by rw [h]; intro z; cases z)
  rw [h] at h2
  rcases h2 with ⟨_, ⟨a, ns, e, _⟩, _⟩ | ⟨n3, h2⟩
  · cases e
  · revert h2
    generalize hd : kd ks i = d at hk n3
    intro h2
    cases d with
    | zero => omega
    | succ d =>
      rcases h2 with ⟨ys, a, vs, O', e, rfl, t, e4, r⟩ | ⟨nl, _, _⟩
      · cases e
        exact ⟨a, vs, O', d, rfl, h1, t, e4, r, n3⟩
      · exact absurd rfl (nl xs)
/-- .. is written: ys of us instead; l' what it owns then -/
theorem Pst.wr {a : Addr} {vs us : List V} {O' l' : List Addr} {d : Nat} {ys : List Val} (S : Stt K H G ks env σ O) (h : gt env i = .lst xs) (hk : kd ks i = d + 1) (n3 : d + 1 ≠ 3) (hv : σ[i]? = some (some (.ref a))) (hl : H a = some (.lst vs)) (ho : O i = a :: O')
    (sub : ∀ b, b ∈ l' → b ∈ O') (nd : l'.Nodup) (sp : Sp3 (OR K H (AA G (ow O i (a :: l'))) d) ys us l') (ho2 : ∀ b, b ∈ l' → ∃ zs, H b = some (.lst zs)) : Pst K H G ks O [i] (Mp.st env i (.lst ys)) σ (upd H a (.lst us)) (ow O i (a :: l')) := by
  have na : a ∉ l' := fun z => by
    have := S.nd i
    rw [ho] at this
    exact (List.nodup_cons.mp this).1 (sub a z)
  refine Pst.put S (by rw [h]; intro z; cases z) hv (fun b o e n => ?_) (fun b e => ?_) (fun b hb => .inl ?_) (List.nodup_cons.mpr ⟨na, nd⟩) ?_ (fun z => nomatch z)
  · rw [upd_ne (fun z => n (by rw [z, ho]; exact List.mem_cons_self))]
    exact e
  · by_cases z : b = a
    · subst z
      rw [upd_same] at e
      cases e
    · rw [upd_ne z] at e
      exact e
  · rw [ho]
    rcases List.mem_cons.mp hb with z | z
    · rw [z]; exact List.mem_cons_self
    · exact List.mem_cons_of_mem _ (sub b z)
  · rw [hk]
    refine .inr ⟨n3, .inl ⟨ys, a, us, l', rfl, rfl, upd_same, rfl, ?_⟩⟩
    have ex : Ext (fun b => b = a) H (upd H a (.lst us)) := ⟨fun b o e n => by rw [upd_ne n]; exact e, fun b e => ⟨vs, e ▸ hl⟩⟩
    refine Sp3.impM (fun x v O1 sub1 q => q.step ex (fun b _ hb e => ?_) (fun _ _ z => z) fun b hb e => na (e ▸ sub1 b hb)) sp
    exact hb.2 i (by rw [ow_same, e]; exact List.mem_cons_self)
/-- the item at j is taken out -/
theorem Pst.take {a : Addr} {vs : List V} {O' : List Addr} {d j : Nat} {y : Val} (S : Stt K H G ks env σ O) (h : gt env i = .lst xs) (hk : kd ks i = d + 1) (n3 : d + 1 ≠ 3) (hv : σ[i]? = some (some (.ref a))) (hl : H a = some (.lst vs)) (ho : O i = a :: O')
    (sp : Sp3 (OR K H (AA G O) d) xs vs O') (hj : xs[j]? = some y) : ∃ w l', vs[j]? = some w ∧ Pst K H G ks O [i] (Mp.st env i (.lst (xs.eraseIdx j))) σ (upd H a (.lst (vs.eraseIdx j))) (ow O i (a :: l')) ∧ VR K (upd H a (.lst (vs.eraseIdx j))) (AA G (ow O i (a :: l'))) y w := by
  obtain ⟨w, O1, O2, h1, h2, h3, h4⟩ := sp.erase hj
  have hnd := S.nd i
  rw [ho] at hnd
  obtain ⟨na, nd⟩ := List.nodup_cons.mp hnd
  have nd2 : (O2 ++ O1).Nodup := h4.nodup_iff.mp nd
  have sub : ∀ b, b ∈ O1 → b ∈ O' := fun b hb => h4.mem_iff.mpr (List.mem_append_right _ hb)
  have aa : ∀ b, AA G O b → AA G (ow O i (a :: O1)) b := fun b hb => ⟨hb.1, fun m z => by
    unfold ow at z
    split at z
    · refine hb.2 i ?_
      rw [ho]
      rcases List.mem_cons.mp z with q | q
      · rw [q]; exact List.mem_cons_self
      · exact List.mem_cons_of_mem _ (sub b q)
    · exact hb.2 m z⟩
  refine ⟨w, O1, h1, Pst.wr S h hk n3 hv hl ho sub (List.nodup_append.mp nd2).2.1 (h3.imp fun x v Q q => q.mono fun b _ hb => aa b hb) (fun b hb => S.there (i := i) (by rw [ho]; exact List.mem_cons_of_mem _ (sub b hb))), ?_⟩
  have ex : Ext (fun b => b = a) H (upd H a (.lst (vs.eraseIdx j))) := ⟨fun b o e n => by rw [upd_ne n]; exact e, fun b e => ⟨vs, e ▸ hl⟩⟩
  have h2' : OR K H (AA G O) d y w O2 := h2
  have m2 : ∀ b, b ∈ O2 → b ∈ O i := fun b hb => by rw [ho]; exact List.mem_cons_of_mem _ (h4.mem_iff.mpr (List.mem_append_left _ hb))
  have na2 : ∀ b, b ∈ O2 → b ≠ a := fun b hb e => na (e ▸ h4.mem_iff.mpr (List.mem_append_left _ hb))
  refine (h2'.step ex (A' := AA G (ow O i (a :: O1))) (fun b _ hb e => hb.2 i (by rw [e, ho]; exact List.mem_cons_self)) (fun b _ hb => aa b hb) fun b hb e => na2 b hb e).free (fun _ _ z => z) fun b hb => ⟨S.own i b (m2 b hb), fun m z => ?_⟩
  unfold ow at z
  split at z
  · rcases List.mem_cons.mp z with q | q
    · exact na2 b hb q
    · exact (List.nodup_append.mp nd2).2.2 b hb b q rfl
  · rename_i e
    exact e (S.dj m i b z (m2 b hb))
end
section
variable {T : Tab} {N : List Str} {k : Nat} {X : Cx} {P : Par} {s : Sx} {ks : List Nat} {e : Expr} {m : E}
theorem popped_goo {σ : L2.St} {H : Hp} {G : Addr → Prop} {O : Own} {M : List Nat} {T1 : Val → Env → Hp → Own → Prop} {i : Nat} {o : Option (Val × Val)} {env : Env} (g : Goo P σ H G ks O M T1 (popped i o env)) : ∃ p, o = some p ∧ ∀ H' O', Pst P.K H G ks O M (st env i p.2) σ H' O' → T1 p.1 (st env i p.2) H' O' := by
  cases o with
  | none => exact g.elim
  | some p => exact ⟨p, rfl, g⟩
theorem lstThen_goo {σ : L2.St} {H : Hp} {G : Addr → Prop} {O : Own} {M : List Nat} {T1 : Val → Env → Hp → Own → Prop} {v : Val} {r : R Val} (g : Goo P σ H G ks O M T1 (lstThen v r)) : ∃ xs, v = .lst xs ∧ Goo P σ H G ks O M T1 r := by
  cases v <;> first | (exact g.elim; done) | skip
  exact ⟨_, rfl, g⟩
theorem popL_some {v : Val} {p : Val × Val} (h : popL v = some p) : ∃ xs, v = .lst xs ∧ xs[xs.length - 1]? = some p.1 ∧ p.2 = .lst (xs.eraseIdx (xs.length - 1)) := by
  cases v <;> first | (have h' : (none : Option (Val × Val)) = some p := h; cases h'; done) | skip
  rename_i xs
  unfold popL at h
  simp only at h
  split at h
  · rename_i w hw
    cases h
    refine ⟨xs, rfl, ?_, ?_⟩
    · rw [← List.getLast?_eq_getElem?]; exact hw
    · show Val.lst xs.dropLast = _
      rw [PyProof.Rows.Copied.eraseIdx_last]
  · cases h
theorem popAtL_some {v : Val} {k : Int} {p : Val × Val} (h : popAtL k v = some p) : ∃ xs j, v = .lst xs ∧ L2.ixN xs.length k = some j ∧ xs[j]? = some p.1 ∧ p.2 = .lst (xs.eraseIdx j) ∧ Nat.ble xs.length LIM = true := by
  cases v <;> first | (have h' : (none : Option (Val × Val)) = some p := h; cases h'; done) | skip
  rename_i xs
  unfold popAtL at h
  simp only at h
  split at h
  · rename_i hlim
    split at h
    · rename_i j hj
      split at h
      · rename_i w hw
        cases h
        exact ⟨xs, j, rfl, hj, hw, rfl, hlim⟩
      · cases h
    · cases h
  · cases h
theorem snd_pop (i : Nat) : Snd T N k (.pop i) := by
  intro X P s ks e cx hc hw
  unfold chkE at hc
  split at hc
  · rename_i x p0 n p q
    simp only [Bool.and_eq_true] at hc
    obtain ⟨⟨⟨h1, h2⟩, h3⟩, h4⟩ := hc
    have h1 := eq_of_beq h1
    subst h1
    unfold wfE at hw
    have hk := Nat.le_of_ble_eq_true hw
    refine Sd.of ((pe_bm0 PySem.F.plainAttrs_list PySem.F.slot_list_pop PySem.F.type_list_pop mt_pop (pe_slot cx h3 h4) rfl h2).imp fun σ H Q ⟨G, O, env, S, g⟩ => ?_) (fun _ => rfl) rfl rfl
    have g : Goo P σ H G ks O (muts (.pop i)) (fun x _ H' O' => ∀ v, Opr P.K H' G O' (ud ks (.pop i)) (root (.pop i)) x v → Q v H') (popped i (popL (gt env i)) env) := g
    obtain ⟨pr, hp, hg⟩ := popped_goo g
    obtain ⟨xs, hx, hj, e2⟩ := popL_some hp
    rw [e2] at hg
    obtain ⟨a, vs, O', d, hd, hv, hl, ho, sp, n3⟩ := slot_list S hk hx
    obtain ⟨w, l', hw, ps, r⟩ := Pst.take S hx hd n3 hv hl ho sp hj
    have len := sp.length
    have ee : vs.eraseIdx (xs.length - 1) = vs.dropLast := by rw [← len, PyProof.Rows.Copied.eraseIdx_last]
    rw [ee] at ps r
    refine ⟨.ref a, hv, .inl ⟨rfl, vs, SqL.of hl⟩, a, vs, w, rfl, rfl, hl, by rw [len]; exact hw, ?_⟩
    exact hg _ _ ps _ (Opr.of r)
  · cases hc
theorem snd_popAt {i : Nat} {a : E} (ia : Snd T N k a) : Snd T N k (.popAt i a) := by
  intro X P s ks e cx hc hw
  unfold chkE at hc
  split at hc
  · rename_i x p0 n p y q
    simp only [Bool.and_eq_true] at hc
    obtain ⟨⟨⟨⟨⟨h1, h2⟩, h3⟩, h4⟩, h5⟩, h6⟩ := hc
    have h1 := eq_of_beq h1
    subst h1
    unfold wfE at hw
    simp only [Bool.and_eq_true] at hw
    obtain ⟨⟨w1, w2⟩, w3⟩ := hw
    have hk := Nat.le_of_ble_eq_true w1
    have ni : i ∉ muts a := fun z => by
      rw [List.contains_iff_mem.mpr z] at w3
      cases w3
    have da := ia X P s ks y cx h6 w2
    refine Sd.of ((pe_bm PySem.F.plainAttrs_list PySem.F.slot_list_pop PySem.F.type_list_pop mt_popAt (pe_slot cx h3 h4) (pa_cons da.pe pa_nil (noStar_each h5)) rfl (by rw [noStar_each h5]; rfl) h2 (noStar_each h5) rfl).imp fun σ H Q ⟨G, O, env, S, g⟩ => ?_) (fun _ => rfl) rfl rfl
    have g : Goo P σ H G ks O (muts (.popAt i a)) (fun x _ H' O' => ∀ v, Opr P.K H' G O' (ud ks (.popAt i a)) (root (.popAt i a)) x v → Q v H') (lstThen (gt env i) (bindI (ev P.C a env) fun k e1 => popped i (popAtL k (gt e1 i)) e1)) := g
    obtain ⟨xs0, h0, g⟩ := lstThen_goo g
    obtain ⟨a0, vs0, O0, d0, hd0, hv0, hl0, ho0, sp0, n30⟩ := slot_list S hk h0
    refine ⟨.ref a0, hv0, .inl ⟨rfl, vs0, SqL.of hl0⟩, ?_⟩
    refine bindPI (M := muts (.popAt i a)) S (fun _ h => app_l h) g fun c env1 H1 O1 p1 g1 => ?_
    obtain ⟨pr, hp, hg⟩ := popped_goo g1
    obtain ⟨xs, j, hx, hix, hj, e2, hlim⟩ := popAtL_some hp
    rw [e2] at hg
    obtain ⟨b, vs, O', d, hd, hv, hl, ho, sp, n3⟩ := slot_list p1.st hk hx
    rw [hv0] at hv
    cases hv
    obtain ⟨w, l', hw, ps, r⟩ := Pst.take p1.st hx hd n3 hv0 hl ho sp hj
    have len := sp.length
    rw [← len] at hix
    obtain ⟨q1, q2, q3, q4⟩ := ixN_seq hix
    have hz : (vs.length : Int) ≤ 2 ^ 62 := by
      rw [len]
      have := Nat.le_of_ble_eq_true hlim
      unfold LIM at this
      omega
    refine ⟨a0, vs, c, j, w, rfl, rfl, hl, ?_, ?_, q1, hw, ?_⟩
    · omega
    · omega
    · exact hg _ _ (ps.mono fun _ h => app_r h) _ (Opr.of r)
  · cases hc

/-! ### methods -/
def tBMD (X : Cx) (name : Str) (to : TE) (t : TA) : TE := fun σ H Q => to σ H fun x H1 => ∃ (T id : String) (r : V → List V → Hp → VK → Prop), PlainAttrs T ∧ Slot T name id ∧ typeOf (.builtin id) = pure (.type "method_descriptor") ∧ MtR X id r ∧
  (∀ (pins : List (Addr × Obj)) (s : Shared) (v : Value), Inv X pins σ H1 s → RelV x v → s.TypeIs v T ∧ ∀ a, v = .ref a → ∃ ob, s.heap.get? a = some ob ∧ ob.dict = none) ∧ t σ H1 fun xs H2 => r x xs H2 Q
theorem pe_bmD {o e : Expr} {es : List Expr} {to : TE} {t : TA} {name : Str} {apos cpos : Pos} (ho : PE X o to) (ha : PA X (e :: es) t) (hbase : attributeBase o name X.env (eval o X.env) = eval o X.env)
    (hfew : ((backTo cpos (starEach (e :: es) X.env)).all (fun x => !x.1) && (backToKw cpos (keywordEach [] X.env)).all (fun x => x.1.isSome)
      && decide ((e :: es).length + ([] : List Keyword).length + (if ([] : List Keyword).isEmpty then 0 else 1) < 30)) = true)
    (hline : (apos.endLine == cpos.line) = true) (hs : starEach (e :: es) X.env = (false, eval e X.env) :: starEach es X.env) (hplain : (backTo cpos (starEach es X.env)).any (·.1) = false) :
    PE X (.Call (.Attribute o name apos) (e :: es) [] cpos) (tBMD X name to t) := by
  refine ⟨fun pins s σ H Q I h => ?_⟩
  refine wpAny_Call_method_late hbase hfew hline rfl (thn (ho.run pins s σ H _ I h) fun v s1 ⟨x, H1, I1, r1, T, id, r, pa, slot, hty, hm, his, q1⟩ => ?_)
  obtain ⟨h1, h2⟩ := his _ _ _ I1 r1
  refine ⟨T, id, pa, slot, hty, h1, h2, ?_⟩
  have hA := ha.run cpos pins s1 σ H1 _ I1 q1
  rw [hs] at hA ⊢
  refine Calls.callWith_builtin (by show (false || (backTo cpos (starEach es X.env)).any (·.1)) = false; rw [hplain] <;> rfl) (Calls.evalArgs_plain ?_)
  exact thn hA fun us s2 ⟨vs, H2, I2, r2, q2⟩ => hm pins s2 σ H2 x vs v us Q I2 r1 r2 q2
theorem noCall_base {o : Expr} {name : Str} {env : PySem.Env} {w : Sem Value} (h : noCall o = true) : attributeBase o name env w = w := by
  cases o <;> first | rfl | cases h
theorem seqThen_goo {σ : L2.St} {H : Hp} {G : Addr → Prop} {O : Own} {M : List Nat} {T1 : Val → Env → Hp → Own → Prop} {v : Val} {r : R Val} (g : Goo P σ H G ks O M T1 (seqThen v r)) : (∃ xs, v = .lst xs ∨ v = .tup xs ∨ ∃ z, v = .str z) ∧ Goo P σ H G ks O M T1 r := by
  cases v <;> first | (exact g.elim; done) | skip
  · exact ⟨⟨[], .inr (.inr ⟨_, rfl⟩)⟩, g⟩
  · exact ⟨⟨_, .inr (.inl rfl)⟩, g⟩
  · exact ⟨⟨_, .inl rfl⟩, g⟩
theorem flat_V {K : PySem.W.Frag} {H : Hp} {A : Addr → Prop} {x : Val} {v : V} (h : VR K H A x v) (f : flat x = true) : flatV v = true := by
  cases x <;> first | (cases f; done) | skip
  · cases (show v = V.non from h); rfl
  · cases (show v = V.bl _ from h); rfl
  · cases (show v = V.int _ from h); rfl
  · cases h.1; rfl
theorem flat_eq {K : PySem.W.Frag} {H : Hp} {A A' : Addr → Prop} {x y : Val} {v w : V} (h : VR K H A x v) (h' : VR K H A' y w) (f : flat x = true) (f' : flat y = true) : eqV v w = eqv x y := by
  cases x <;> first | (cases f; done) | skip <;> cases y <;> first | (cases f'; done) | skip
  all_goals
    first
    | (cases h.1) | (cases (show v = V.non from h)) | (cases (show v = V.bl _ from h)) | (cases (show v = V.int _ from h))
  all_goals
    first
    | (cases h'.1; rfl) | (cases (show w = V.non from h'); rfl) | (cases (show w = V.bl _ from h'); rfl) | (cases (show w = V.int _ from h'); rfl)
theorem allFlat_V {K : PySem.W.Frag} {H : Hp} {A : Addr → Prop} : ∀ {xs : List Val} {vs : List V}, VRs K H A xs vs → allFlat xs = true → vs.all flatV = true
  | [], _, h, _ => by cases (show _ = [] from h); rfl
  | x :: xs, _, ⟨v, r, e, hv, t⟩, f => by
    subst e
    unfold allFlat at f
    simp only [Bool.and_eq_true] at f
    rw [List.all_cons, flat_V hv f.1, allFlat_V t f.2]
    rfl
theorem allFlat_at {xs : List Val} {j : Nat} {y : Val} (f : allFlat xs = true) (h : xs[j]? = some y) : flat y = true := by
  induction xs generalizing j with
  | nil => simp at h
  | cons x xs ih =>
    unfold allFlat at f
    simp only [Bool.and_eq_true] at f
    cases j with
    | zero => simp at h; subst h; exact f.1
    | succ j => exact ih f.2 (by simpa using h)
theorem findEq_some {x : Val} : ∀ {ys : List Val} {n m : Nat}, findEq x ys n = some m → ∃ j y, m = n + j ∧ ys[j]? = some y ∧ eqv y x = true ∧ ∀ i z, i < j → ys[i]? = some z → eqv z x = false
  | [], _, _, h => by cases h
  | y :: ys, n, m, h => by
    unfold findEq at h
    split at h
    · rename_i q
      cases h
      exact ⟨0, y, rfl, rfl, q, fun i z hi => absurd hi (Nat.not_lt_zero _)⟩
    · rename_i q
      obtain ⟨j, w, h1, h2, h3, h4⟩ := findEq_some h
      refine ⟨j + 1, w, by omega, by simpa using h2, h3, fun i z hi hz => ?_⟩
      cases i with
      | zero => simp at hz; subst hz; simpa using q
      | succ i => exact h4 i z (by omega) (by simpa using hz)
theorem flat_nl {x : Val} (f : flat x = true) : (∀ xs, x ≠ .lst xs) ∧ ∀ xs, x ≠ .opq 0 xs := by
  cases x <;> first | (cases f; done) | exact ⟨fun _ z => (nomatch z), fun _ z => (nomatch z)⟩
theorem rIndex_of {K : PySem.W.Frag} {H : Hp} {A A' : Addr → Prop} {ys : List Val} {ws : List V} {x : Val} {v : V} {n : Nat} (r : VRs K H A ys ws) (hx : VR K H A' x v) (fx : flat x = true) (fy : allFlat ys = true) (h : findEq x ys 0 = some n) :
    ∃ z, flatV v = true ∧ ws.all flatV = true ∧ ws[n]? = some z ∧ eqV z v = true ∧ ∀ (m : Nat) (z' : V), m < n → ws[m]? = some z' → eqV z' v = false := by
  obtain ⟨j, y, h1, h2, h3, h4⟩ := findEq_some h
  have e : n = j := by omega
  subst e
  obtain ⟨z, hz, rz⟩ := r.get h2
  refine ⟨z, flat_V hx fx, allFlat_V r fy, hz, by rw [flat_eq rz hx (allFlat_at fy h2) fx]; exact h3, fun m z' hm hz' => ?_⟩
  have hlt : m < ys.length := by
    have := (List.getElem?_eq_some_iff.mp h2).1
    omega
  obtain ⟨w, hw, rw'⟩ := r.get (List.getElem?_eq_getElem hlt)
  rw [hz'] at hw
  cases hw
  rw [flat_eq rw' hx (allFlat_at fy (List.getElem?_eq_getElem hlt)) fx]
  exact h4 m _ hm (List.getElem?_eq_getElem hlt)
theorem toPDs_get : ∀ {xs : List Val} {j : Nat} {y : Val}, xs[j]? = some y → (toPDs xs)[j]? = some (toPD y)
  | [], _, _, h => by simp at h
  | x :: xs, 0, y, h => by
    simp at h
    subst h
    rfl
  | x :: xs, j + 1, y, h => by
    show (toPD x :: toPDs xs)[j + 1]? = _
    rw [List.getElem?_cons_succ]
    exact toPDs_get (by simpa using h)
theorem shaped_list {ds : List PyData} (h : PyData.canLayAll0 ds = true) (hd : PyData.depthAll ds ≤ 60) : SeqAt.shaped (.list ds) = true := by
  show (PyData.canLay0 (.list ds) && decide (PyData.depth (.list ds) ≤ 64)) = true
  have e1 : PyData.canLay0 (.list ds) = true := by unfold PyData.canLay0; exact h
  have e2 : PyData.depth (.list ds) ≤ 64 := by unfold PyData.depth; omega
  rw [e1, decide_eq_true e2]
  rfl
theorem snd_me {mm : Me} {a : E} {es : List E} (ia : Snd T N k a) (il : ∀ a, a ∈ es → Snd T N k a) : Snd T N k (.me mm a es) := by
  intro X P s ks e cx hc hw
  unfold chkE at hc
  split at hc
  · rename_i o n p xs q
    simp only [Bool.and_eq_true] at hc
    obtain ⟨⟨⟨⟨⟨⟨h1, h2⟩, h3⟩, h4⟩, h5⟩, h6⟩, h7⟩ := hc
    have h1 := eq_of_beq h1
    subst h1
    unfold wfE at hw
    simp only [Bool.and_eq_true] at hw
    obtain ⟨⟨⟨⟨w1, w2⟩, w3⟩, w4⟩, w5⟩ := hw
    cases xs with
    | nil => cases h7
    | cons x xr =>
      have hns : noStar x = true := by
        cases es with
        | nil => unfold chkL at h5; cases h5
        | cons _ _ => unfold chkL at h5; simp only [Bool.and_eq_true] at h5; exact h5.1.1
      have hpl : ∀ pos : Pos, (backTo pos (starEach xr X.env)).any (·.1) = false := fun pos => by
        cases es with
        | nil => unfold chkL at h5; cases h5
        | cons _ _ => unfold chkL at h5; simp only [Bool.and_eq_true] at h5; exact (chkL_plain h5.2).1
      have hfew : ((backTo q (starEach (x :: xr) X.env)).all (fun x => !x.1) && (backToKw q (keywordEach [] X.env)).all (fun x => x.1.isSome) && decide ((x :: xr).length + ([] : List Keyword).length + (if ([] : List Keyword).isEmpty then 0 else 1) < 30)) = true := by
        rw [(chkL_plain h5).2]
        have : (x :: xr).length ≤ 10 := Nat.le_of_ble_eq_true h6
        have e : decide ((x :: xr).length + ([] : List Keyword).length + (if ([] : List Keyword).isEmpty then 0 else 1) < 30) = true := decide_eq_true (by simp at this ⊢; omega)
        rw [e]
        rfl
      refine Sd.of ((pe_bmD (ia X P s ks o cx h4 w1).pe (sndL_of il X P s ks _ cx h5 (wfL_wfA w2) (safeL_seqL w4)) (noCall_base h2) hfew h3 (noStar_each hns) (hpl q)).imp fun σ H Q ⟨G, O, env, S, g⟩ => ?_) (fun _ => rfl) rfl rfl
      rw [ev_me] at g
      refine bindP (M := muts (.me mm a es)) S (fun _ h => app_l h) g fun z env1 v H1 O1 p1 o1 g1 => ?_
      obtain ⟨hz, g1⟩ := seqThen_goo g1
      have noio := wfL_noIos w2
      rcases hz with ⟨xs, rfl | rfl | ⟨b, rfl⟩⟩
      · obtain ⟨p0, vs0, rfl, hl, r0⟩ := o1.lst (flat_ud w3)
        cases mm with
        | count =>
          exact ⟨"list", _, fun _ _ _ _ => False, PySem.F.plainAttrs_list, PySem.F.slot_list_count, PySem.F.type_list_count, fun _ _ _ _ _ _ _ _ _ _ _ _ h => h.elim, fun pins s v I r => tyV_is I r (.inl ⟨rfl, vs0, SqL.of hl⟩),
            bindA (M := muts (.me .count a es)) p1.st (fun _ h => app_r h) g1 fun ys env2 vs H2 O2 p2 o2 g2 => by
              obtain ⟨w, hw, hg⟩ := g2.ofO
              cases ys with
              | nil => cases hw
              | cons _ _ => cases hw⟩
        | index =>
          exact ⟨"list", _, fun x xs H Q => rIndex X.K x xs H Q ∨ rIndexD X.K x xs H Q, PySem.F.plainAttrs_list, PySem.F.slot_list_index, PySem.F.type_list_index, mt_index.or (mt_indexD (by have := units_of cx; omega)), fun pins s v I r => tyV_is I r (.inl ⟨rfl, vs0, SqL.of hl⟩),
            bindA (M := muts (.me .index a es)) p1.st (fun _ h => app_r h) g1 fun ys env2 vs H2 O2 p2 o2 g2 => by
              obtain ⟨w, hw, hg⟩ := g2.ofO
              match ys, hw, o2 with
              | [y], hw, o2 =>
                obtain ⟨ea, v, rfl, rfl, oy⟩ := o2.one noio
                have hw : (if flat y && allFlat xs then (findEq y xs 0).map fun n => Val.int n else indexD (.lst xs) y) = some w := hw
                split at hw
                · rename_i hf
                  simp only [Bool.and_eq_true] at hf
                  cases hfe : findEq y xs 0 with
                  | none => rw [hfe] at hw; cases hw
                  | some n =>
                    rw [hfe] at hw
                    cases hw
                    have o3 := o1.step p1.st p2 (away_of w5)
                    obtain ⟨q0, vs2, e0, hl2, r2⟩ := o3.lst (flat_ud w3)
                    cases e0
                    obtain ⟨z, f1, f2, f3, f4, f5⟩ := rIndex_of r2 (oy.nl (flat_nl hf.1).1 (flat_nl hf.1).2) hf.1 hf.2 hfe
                    exact .inl ⟨p0, vs2, v, n, z, rfl, rfl, by rw [cx.K]; exact SqL.of hl2, f1, f2, f3, f4, f5, hg H2 O2 (Pst.refl p2.st) _ (Opr.of rfl)⟩
                · have hw : (if isDat y && Nat.ble (dep y) 60 && Nat.ble (deps xs) 60 then (findEq y xs 0).map fun n => Val.int n else none) = some w := hw
                  split at hw
                  · rename_i hf
                    simp only [Bool.and_eq_true] at hf
                    cases hfe : findEq y xs 0 with
                    | none => rw [hfe] at hw; cases hw
                    | some n =>
                      rw [hfe] at hw
                      cases hw
                      have o3 := o1.step p1.st p2 (away_of w5)
                      obtain ⟨q0, vs2, e0, hl2, r2⟩ := o3.lst (flat_ud w3)
                      cases e0
                      have oy2 := oy.all hf.1.1
                      obtain ⟨j, y1, h1, h2, h3, h4⟩ := findEq_some hfe
                      have e : n = j := by omega
                      subst e
                      refine .inr ⟨p0, v, toPD y, toPDs xs, n, toPD y1, rfl, rfl, by rw [cx.K]; exact .lst (SqL.of hl2) r2.dp, by rw [cx.K]; exact oy2.dp, ?_, ?_, toPDs_get h2, ?_, fun m z' hm hz' => ?_, hg H2 O2 (Pst.refl p2.st) _ (Opr.of rfl)⟩
                      · exact shaped_list r2.lay (by rw [depths_pd]; exact Nat.le_of_ble_eq_true hf.2)
                      · show (_ && decide (_ ≤ 64)) = true
                        rw [oy2.lay, depth_pd, decide_eq_true (Nat.le_trans (Nat.le_of_ble_eq_true hf.1.2) (by omega))]
                        rfl
                      · obtain ⟨v1, _, hv1⟩ := r2.get h2
                        rw [hv1.eqv oy2]
                        exact h3
                      · have hlt : m < xs.length := by
                          have := (List.getElem?_eq_some_iff.mp h2).1
                          omega
                        have hxm := List.getElem?_eq_getElem hlt
                        rw [toPDs_get hxm] at hz'
                        cases hz'
                        obtain ⟨v1, _, hv1⟩ := r2.get hxm
                        rw [hv1.eqv oy2]
                        exact h4 m _ hm hxm
                  · cases hw⟩
      · obtain ⟨p0, vs0, rfl, hl, r0⟩ := o1.tup
        cases mm with
        | count =>
          exact ⟨"tuple", _, fun _ _ _ _ => False, PySem.F.plainAttrs_tuple, PySem.F.slot_tuple_count, PySem.F.type_tuple_count, fun _ _ _ _ _ _ _ _ _ _ _ _ h => h.elim, fun pins s v I r => tupK_is I r ⟨p0, vs0, rfl, by rw [cx.K]; exact hl⟩,
            bindA (M := muts (.me .count a es)) p1.st (fun _ h => app_r h) g1 fun ys env2 vs H2 O2 p2 o2 g2 => by
              obtain ⟨w, hw, hg⟩ := g2.ofO
              cases ys with
              | nil => cases hw
              | cons _ _ => cases hw⟩
        | index =>
          exact ⟨"tuple", _, rIndexT X.K, PySem.F.plainAttrs_tuple, PySem.F.slot_tuple_index, PySem.F.type_tuple_index, mt_indexT, fun pins s v I r => tupK_is I r ⟨p0, vs0, rfl, by rw [cx.K]; exact hl⟩,
            bindA (M := muts (.me .index a es)) p1.st (fun _ h => app_r h) g1 fun ys env2 vs H2 O2 p2 o2 g2 => by
              obtain ⟨w, hw, hg⟩ := g2.ofO
              match ys, hw, o2 with
              | [y], hw, o2 =>
                obtain ⟨ea, v, rfl, rfl, oy⟩ := o2.one noio
                have hw : (if flat y && allFlat xs then (findEq y xs 0).map fun n => Val.int n else none) = some w := hw
                split at hw
                · rename_i hf
                  simp only [Bool.and_eq_true] at hf
                  cases hfe : findEq y xs 0 with
                  | none => rw [hfe] at hw; cases hw
                  | some n =>
                    rw [hfe] at hw
                    cases hw
                    have o3 := o1.step p1.st p2 (away_of w5)
                    obtain ⟨q0, vs2, e0, hl2, r2⟩ := o3.tup
                    cases e0
                    obtain ⟨z, f1, f2, f3, f4, f5⟩ := rIndex_of r2 (oy.nl (flat_nl hf.1).1 (flat_nl hf.1).2) hf.1 hf.2 hfe
                    exact ⟨p0, vs2, v, n, z, rfl, rfl, by rw [cx.K]; exact hl2.sqt, f1, f2, f3, f4, f5, hg H2 O2 (Pst.refl p2.st) _ (Opr.of rfl)⟩
                · cases hw⟩
      · obtain ⟨rfl, q1, q2⟩ := o1.str
        cases mm with
        | count =>
          exact ⟨"str", _, fun _ _ _ _ => False, PySem.F.plainAttrs_str, PySem.F.slot_str_count, PySem.F.type_str_count, fun _ _ _ _ _ _ _ _ _ _ _ _ h => h.elim, fun pins s v I r => tyV_is I r rfl,
            bindA (M := muts (.me .count a es)) p1.st (fun _ h => app_r h) g1 fun ys env2 vs H2 O2 p2 o2 g2 => by
              obtain ⟨w, hw, hg⟩ := g2.ofO
              cases ys with
              | nil => cases hw
              | cons _ _ => cases hw⟩
        | index =>
          exact ⟨"str", _, _, PySem.F.plainAttrs_str, PySem.F.slot_str_index, PySem.F.type_str_index, mt_sindex, fun pins s v I r => tyV_is I r rfl,
            bindA (M := muts (.me .index a es)) p1.st (fun _ h => app_r h) g1 fun ys env2 vs H2 O2 p2 o2 g2 => by
              obtain ⟨w, hw, hg⟩ := g2.ofO
              match ys, hw, o2 with
              | [y], hw, o2 =>
                obtain ⟨ea, v, rfl, rfl, oy⟩ := o2.one noio
                have hw : sIndex b y = some w := hw
                match y, hw, oy with
                | .str c, hw, oy =>
                  unfold sIndex at hw
                  simp only at hw
                  split at hw
                  · rename_i i rest ho
                    cases hw
                    exact ⟨b, c, i, rest, rfl, by rw [oy.str.1], ho, hg H2 O2 (Pst.refl p2.st) _ (Opr.of rfl)⟩
                  · cases hw⟩
  · cases hc
end
end Mp
set_option Elab.async false
set_option linter.all false
set_option maxRecDepth 10000
/-! # Mp: calls of defs. -/
namespace Mp
open PySem PySem.Spec PyProof.Rows L2

theorem gt_get : ∀ (e : Env) (i : Nat), gt e i = (e[i]?).getD .undef
  | [], _ => rfl
  | _ :: _, 0 => rfl
  | _ :: r, i + 1 => by rw [gt_succ, gt_get r i]; simp
theorem gt_some {e : Env} {i : Nat} {x : Val} (h : e[i]? = some x) : gt e i = x := by rw [gt_get, h]; rfl
theorem io_iff {e : E} : isIo e = true ↔ ∃ i, e = .io i := by
  cases e <;> simp [isIo]
theorem nodupN_iff : ∀ {l : List Nat}, nodupN l = true ↔ l.Nodup
  | [] => by simp [nodupN]
  | i :: r => by
    unfold nodupN
    rw [Bool.and_eq_true, nodupN_iff, List.nodup_cons]
    simp
theorem Oprs.at {K : PySem.W.Frag} {H : Hp} {G : Addr → Prop} {ks : List Nat} {O : Own} {σ : L2.St} : ∀ {es : List E} {xs : List Val} {vs : List V} {p : Nat} {e : E}, Oprs K H G ks O σ es xs vs → es[p]? = some e →
    ∃ x v, xs[p]? = some x ∧ vs[p]? = some v ∧ (match isIoOf e with | some i => σ[i]? = some (some v) | none => Opr K H G O (ud ks e) (root e) x v)
  | [], _, _, _, _, _, h => by simp at h
  | e :: es, _, _, 0, e', ⟨x, xr, v, vr, h1, h2, h3, t⟩, h => by
    subst h1 h2
    simp at h
    subst h
    exact ⟨x, v, rfl, rfl, h3⟩
  | e :: es, _, _, p + 1, e', ⟨x, xr, v, vr, h1, h2, h3, t⟩, h => by
    subst h1 h2
    obtain ⟨x', v', q1, q2, q3⟩ := Oprs.at (p := p) t (by simpa using h)
    exact ⟨x', v', by simpa using q1, by simpa using q2, q3⟩
theorem fill_at : ∀ {es : List E} {xs : List Val} {env : Env} {p : Nat} {e : E} {x : Val}, es[p]? = some e → xs[p]? = some x → (fill es xs env)[p]? = some (fill1 e x env)
  | [], _, _, _, _, _, h, _ => by simp at h
  | _ :: _, [], _, _, _, _, _, h => by simp at h
  | a :: es, y :: xs, env, 0, e, x, h, h' => by
    simp at h h'
    subst h h'
    rfl
  | a :: es, y :: xs, env, p + 1, e, x, h, h' => by
    have := fill_at (es := es) (xs := xs) (env := env) (p := p) (by simpa using h) (by simpa using h')
    simpa [fill] using this
theorem fill_len : ∀ {es : List E} {xs : List Val} {env : Env}, xs.length = es.length → (fill es xs env).length = es.length
  | [], _, _, _ => rfl
  | _ :: _, [], _, h => by simp at h
  | a :: es, y :: xs, env, h => by
    simp at h
    simp [fill, fill_len (env := env) h]
theorem ioOk_at : ∀ {kd : List Nat} {es : List E} {js : List Nat} {p : Nat} {e : E}, ioOk kd es js = true → es[p]? = some e → ∃ k, kd[p]? = some k ∧ (k = 0 → isIo e = false) ∧ (k ≠ 0 → ∃ i, e = .io i ∧ i ∈ js)
  | _, [], _, _, _, _, h => by simp at h
  | [], _ :: _, js, _, _, h, _ => by unfold ioOk at h; cases h
  | 0 :: kr, a :: es, js, 0, e, h, he => by
    unfold ioOk at h
    simp at he
    subst he
    exact ⟨0, rfl, fun _ => by simpa using (Bool.and_eq_true_iff.mp h).1, fun z => absurd rfl z⟩
  | 0 :: kr, a :: es, js, p + 1, e, h, he => by
    unfold ioOk at h
    obtain ⟨k, h1, h2, h3⟩ := ioOk_at (p := p) (Bool.and_eq_true_iff.mp h).2 (by simpa using he)
    exact ⟨k, by simpa using h1, h2, h3⟩
  | (k + 1) :: kr, a :: es, [], p, e, h, he => by
    cases a <;> (unfold ioOk at h; cases h)
  | (k + 1) :: kr, a :: es, j :: js, p, e, h, he => by
    cases a <;> first | (unfold ioOk at h; cases h; done) | skip
    rename_i i
    unfold ioOk at h
    obtain ⟨h1, h2⟩ := Bool.and_eq_true_iff.mp h
    have h1 := eq_of_beq h1
    subst h1
    cases p with
    | zero =>
      simp at he
      subst he
      exact ⟨k + 1, rfl, fun z => (nomatch z), fun _ => ⟨i, rfl, List.mem_cons_self⟩⟩
    | succ p =>
      obtain ⟨k', q1, q2, q3⟩ := ioOk_at (p := p) h2 (by simpa using he)
      exact ⟨k', by simpa using q1, q2, fun z => by
        obtain ⟨i', r1, r2⟩ := q3 z
        exact ⟨i', r1, List.mem_cons_of_mem _ r2⟩⟩
theorem ioOk_js : ∀ {kd : List Nat} {es : List E} {js : List Nat} {i : Nat}, ioOk kd es js = true → i ∈ js → ∃ p : Nat, es[p]? = some (.io i)
  | [], [], js, i, h, hi => by
    cases js with
    | nil => cases hi
    | cons _ _ => unfold ioOk at h; cases h
  | a :: _, [], js, i, h, hi => by cases a <;> cases js <;> simp [ioOk] at h
  | [], _ :: _, js, _, h, _ => by unfold ioOk at h; cases h
  | 0 :: kr, a :: es, js, i, h, hi => by
    unfold ioOk at h
    obtain ⟨p, hp⟩ := ioOk_js (Bool.and_eq_true_iff.mp h).2 hi
    exact ⟨p + 1, by simpa using hp⟩
  | (k + 1) :: kr, a :: es, [], i, h, hi => by cases hi
  | (k + 1) :: kr, a :: es, j :: js, i, h, hi => by
    cases a <;> first | (unfold ioOk at h; cases h; done) | skip
    rename_i i'
    unfold ioOk at h
    obtain ⟨h1, h2⟩ := Bool.and_eq_true_iff.mp h
    have h1 := eq_of_beq h1
    subst h1
    rcases List.mem_cons.mp hi with e | e
    · subst e
      exact ⟨0, rfl⟩
    · obtain ⟨p, hp⟩ := ioOk_js h2 e
      exact ⟨p + 1, by simpa using hp⟩
theorem ioOk_len : ∀ {kd : List Nat} {es : List E} {js : List Nat}, ioOk kd es js = true → kd.length = es.length
  | [], [], js, h => rfl
  | a :: _, [], js, h => by cases a <;> cases js <;> simp [ioOk] at h
  | [], _ :: _, js, h => by unfold ioOk at h; cases h
  | 0 :: kr, a :: es, js, h => by
    unfold ioOk at h
    simp [ioOk_len (Bool.and_eq_true_iff.mp h).2]
  | (k + 1) :: kr, a :: es, [], h => by cases a <;> (unfold ioOk at h; cases h)
  | (k + 1) :: kr, a :: es, j :: js, h => by
    cases a <;> first | (unfold ioOk at h; cases h; done) | skip
    unfold ioOk at h
    simp [ioOk_len (Bool.and_eq_true_iff.mp h).2]
theorem ioOk_inj : ∀ {kd : List Nat} {es : List E} {js : List Nat} {p q i : Nat}, ioOk kd es js = true → js.Nodup → es[p]? = some (.io i) → es[q]? = some (.io i) → p = q
  | _, [], _, _, _, _, _, _, h, _ => by simp at h
  | [], _ :: _, js, _, _, _, h, _, _, _ => by unfold ioOk at h; cases h
  | 0 :: kr, a :: es, js, p, q, i, h, nd, hp, hq => by
    unfold ioOk at h
    obtain ⟨h1, h2⟩ := Bool.and_eq_true_iff.mp h
    cases p with
    | zero => simp at hp; subst hp; cases h1
    | succ p =>
      cases q with
      | zero => simp at hq; subst hq; cases h1
      | succ q =>
        have e := ioOk_inj (p := p) (q := q) (i := i) h2 nd (by simpa using hp) (by simpa using hq)
        rw [e]
  | (k + 1) :: kr, a :: es, [], p, q, i, h, nd, hp, hq => by cases a <;> (unfold ioOk at h; cases h)
  | (k + 1) :: kr, a :: es, j :: js, p, q, i, h, nd, hp, hq => by
    cases a <;> first | (unfold ioOk at h; cases h; done) | skip
    rename_i i'
    unfold ioOk at h
    obtain ⟨h1, h2⟩ := Bool.and_eq_true_iff.mp h
    have h1 := eq_of_beq h1
    subst h1
    obtain ⟨n1, n2⟩ := List.nodup_cons.mp nd
    have no : ∀ m : Nat, es[m]? = some (E.io i') → False := fun m hm => by
      obtain ⟨k', _, q2, q3⟩ := ioOk_at h2 hm
      by_cases z : k' = 0
      · have := q2 z
        cases this
      · obtain ⟨i2, r1, r2⟩ := q3 z
        cases r1
        exact n1 r2
    cases p with
    | zero =>
      simp at hp
      subst hp
      cases q with
      | zero => rfl
      | succ q => exact (no q (by simpa using hq)).elim
    | succ p =>
      cases q with
      | zero =>
        simp at hq
        subst hq
        exact (no p (by simpa using hp)).elim
      | succ q =>
        have e := ioOk_inj (p := p) (q := q) (i := i) h2 n2 (by simpa using hp) (by simpa using hq)
        rw [e]
theorem ioKs_at {ks : List Nat} : ∀ {kd : List Nat} {es : List E} {p i : Nat}, ioKs ks kd es = true → es[p]? = some (.io i) → p < kd.length → kd[p]? = some (Mp.kd ks i)
  | _, [], _, _, _, h, _ => by simp at h
  | [], _ :: _, _, _, _, _, h => absurd h (Nat.not_lt_zero _)
  | k :: kr, a :: es, 0, i, h, hp, _ => by
    simp at hp
    subst hp
    have : (Nat.beq (Mp.kd ks i) k && ioKs ks kr es) = true := by
      cases k <;> (unfold ioKs at h; exact h)
    rw [Nat.eq_of_beq_eq_true (Bool.and_eq_true_iff.mp this).1]
    rfl
  | k :: kr, a :: es, p + 1, i, h, hp, hl => by
    have h2 : ioKs ks kr es = true := by
      cases a <;> cases k <;> (unfold ioKs at h; first | exact (Bool.and_eq_true_iff.mp h).2 | exact h | cases h)
    have := ioKs_at (p := p) h2 (by simpa using hp) (by simpa using hl)
    simpa using this
theorem mem_ioS : ∀ {kd : List Nat} {n p : Nat}, p ∈ ioS kd n ↔ ∃ q k, p = n + q ∧ kd[q]? = some (k + 1)
  | [], n, p => by simp [ioS]
  | 0 :: kr, n, p => by
    unfold ioS
    rw [mem_ioS]
    constructor
    · rintro ⟨q, k, h1, h2⟩
      exact ⟨q + 1, k, by omega, by simpa using h2⟩
    · rintro ⟨q, k, h1, h2⟩
      cases q with
      | zero => simp at h2
      | succ q => exact ⟨q, k, by omega, by simpa using h2⟩
  | (j + 1) :: kr, n, p => by
    unfold ioS
    rw [List.mem_cons, mem_ioS]
    constructor
    · rintro (h | ⟨q, k, h1, h2⟩)
      · exact ⟨0, j, by omega, rfl⟩
      · exact ⟨q + 1, k, by omega, by simpa using h2⟩
    · rintro ⟨q, k, h1, h2⟩
      cases q with
      | zero => exact .inl (by omega)
      | succ q => exact .inr ⟨q, k, by omega, by simpa using h2⟩
theorem puts_at : ∀ {kd : List Nat} {es : List E} {js : List Nat} {outs : List Val} {env env' : Env}, ioOk kd es js = true → js.Nodup → puts js outs env = some env' →
    (∀ p i : Nat, es[p]? = some (.io i) → i < env.length → gt env' i = gt (outEnv kd outs) p) ∧ ∀ i, i ∉ js → gt env' i = gt env i
  | [], [], js, outs, env, env', h, nd, hp => by
    cases js with
    | cons _ _ => unfold ioOk at h; cases h
    | nil =>
      cases outs with
      | cons _ _ => cases hp
      | nil =>
        cases hp
        exact ⟨fun p i h => by simp at h, fun _ _ => rfl⟩
  | a :: _, [], js, outs, env, env', h, nd, hp => by cases a <;> cases js <;> simp [ioOk] at h
  | [], _ :: _, js, outs, env, env', h, nd, hp => by unfold ioOk at h; cases h
  | 0 :: kr, a :: es, js, outs, env, env', h, nd, hp => by
    unfold ioOk at h
    obtain ⟨h1, h2⟩ := Bool.and_eq_true_iff.mp h
    obtain ⟨q1, q2⟩ := puts_at h2 nd hp
    refine ⟨fun p i hh hl => ?_, q2⟩
    cases p with
    | zero => simp at hh; subst hh; cases h1
    | succ p =>
      show _ = gt (.undef :: outEnv kr outs) (p + 1)
      exact q1 p i (by simpa using hh) hl
  | (k + 1) :: kr, a :: es, [], outs, env, env', h, nd, hp => by cases a <;> (unfold ioOk at h; cases h)
  | (k + 1) :: kr, a :: es, j :: js, outs, env, env', h, nd, hp => by
    cases a <;> first | (unfold ioOk at h; cases h; done) | skip
    rename_i i'
    unfold ioOk at h
    obtain ⟨h1, h2⟩ := Bool.and_eq_true_iff.mp h
    have h1 := eq_of_beq h1
    subst h1
    obtain ⟨n1, n2⟩ := List.nodup_cons.mp nd
    cases outs with
    | nil => cases hp
    | cons v r =>
      have hp : puts js r (st env i' v) = some env' := hp
      obtain ⟨q1, q2⟩ := puts_at h2 n2 hp
      refine ⟨fun p i hh hl => ?_, fun i hi => ?_⟩
      · cases p with
        | zero =>
          simp at hh
          subst hh
          rw [q2 i' n1, gt_st, if_pos ⟨rfl, hl⟩]
          rfl
        | succ p =>
          show _ = gt (v :: outEnv kr r) (p + 1)
          exact q1 p i (by simpa using hh) (by rw [st_len]; exact hl)
      · rw [q2 i (fun z => hi (List.mem_cons_of_mem _ z)), gt_st, if_neg (fun z => hi (by rw [z.1]; exact List.mem_cons_self))]
theorem defd_at : ∀ {l : List Val} {p : Nat}, defd l = true → p < l.length → gt l p ≠ .undef
  | [], p, _, h => absurd h (Nat.not_lt_zero _)
  | v :: r, p, h, hp => by
    rw [defd_cons] at h
    have hv : v ≠ .undef := fun z => by rw [z] at h; cases h
    rw [undefd_ne _ _ hv] at h
    cases p with
    | zero => exact hv
    | succ p => exact defd_at (p := p) h (by simpa using hp)
theorem safeL_at {ks : List Nat} : ∀ {l : List E} {p : Nat} {e : E}, safeL ks l = true → l[p]? = some e → ud ks e = 0
  | [], _, _, _, h => by simp at h
  | a :: r, 0, e, h, he => by
    unfold safeL at h
    simp at he
    subst he
    exact safe_ud (Bool.and_eq_true_iff.mp h).1
  | a :: r, p + 1, e, h, he => by
    unfold safeL at h
    exact safeL_at (p := p) (Bool.and_eq_true_iff.mp h).2 (by simpa using he)
theorem awayL_at {ks M : List Nat} : ∀ {l : List E} {p : Nat} {e : E}, awayL ks l M = true → l[p]? = some e → ud ks e = 0 ∨ root e ∉ M
  | [], _, _, _, h => by simp at h
  | a :: r, 0, e, h, he => by
    unfold awayL at h
    simp at he
    subst he
    exact away_of (Bool.and_eq_true_iff.mp h).1
  | a :: r, p + 1, e, h, he => by
    unfold awayL at h
    exact awayL_at (p := p) (Bool.and_eq_true_iff.mp h).2 (by simpa using he)
theorem twoL_at {ks : List Nat} : ∀ {l : List E} {p : Nat} {e : E}, twoL ks l = true → l[p]? = some e → ud ks e ≤ 2
  | [], _, _, _, h => by simp at h
  | a :: r, 0, e, h, he => by
    unfold twoL at h
    simp at he
    subst he
    exact Nat.le_of_ble_eq_true (Bool.and_eq_true_iff.mp h).1
  | a :: r, p + 1, e, h, he => by
    unfold twoL at h
    exact twoL_at (p := p) (Bool.and_eq_true_iff.mp h).2 (by simpa using he)
mutual
/-- no list within: it lies anywhere -/
theorem VR.noLst {K : PySem.W.Frag} {H : Hp} {A A' : Addr → Prop} : ∀ {x : Val} {v : V}, noLst x = true → VR K H A x v → VR K H A' x v
  | .non, _, _, h => h
  | .bl _, _, _, h => h
  | .int _, _, _, h => h
  | .str _, _, _, h => h
  | .tup xs, _, n, h => by
    obtain ⟨a, vs, e1, t, r⟩ := h
    exact ⟨a, vs, e1, t, VRs.noLsts (by unfold Mp.noLst at n; exact n) r⟩
  | .lst xs, _, n, _ => by unfold Mp.noLst at n; cases n
theorem VRs.noLsts {K : PySem.W.Frag} {H : Hp} {A A' : Addr → Prop} : ∀ {xs : List Val} {vs : List V}, noLsts xs = true → VRs K H A xs vs → VRs K H A' xs vs
  | [], _, _, h => h
  | x :: xs, _, n, h => by
    obtain ⟨v, r, e1, hv, t⟩ := h
    unfold Mp.noLsts at n
    simp only [Bool.and_eq_true] at n
    exact ⟨v, r, e1, VR.noLst n.1 hv, VRs.noLsts n.2 t⟩
end
theorem noLst_nl {x : Val} (n : noLst x = true) : ∀ xs, x ≠ .lst xs := fun xs e => by
  subst e
  unfold noLst at n
  cases n
theorem OR.noLst {K : PySem.W.Frag} {H : Hp} {A A' : Addr → Prop} : ∀ {d : Nat} {x : Val} {v : V} {O : List Addr}, noLst x = true → OR K H A d x v O → OR K H A' d x v O
  | 0, x, v, O, n, ⟨h, z⟩ => ⟨h.noLst n, z⟩
  | d + 1, x, v, O, n, .inl ⟨xs, a, vs, O', e1, e2, e3, e4, t⟩ => absurd e1 (noLst_nl n xs)
  | d + 1, x, v, O, n, .inr ⟨nl, h, z⟩ => .inr ⟨nl, h.noLst n, z⟩
theorem Sp3.noLsts {K : PySem.W.Frag} {H : Hp} {A A' : Addr → Prop} {d : Nat} : ∀ {xs : List Val} {vs : List V} {O : List Addr}, noLsts xs = true → Sp3 (OR K H A d) xs vs O → Sp3 (OR K H A' d) xs vs O
  | [], _, _, _, q => q
  | x :: xs, _, _, n, ⟨v, r, O1, O2, e1, e2, p, t⟩ => by
    unfold Mp.noLsts at n
    simp only [Bool.and_eq_true] at n
    exact ⟨v, r, O1, O2, e1, e2, p.noLst n.1, Sp3.noLsts n.2 t⟩
theorem OR.okRes {K : PySem.W.Frag} {H : Hp} {A A' : Addr → Prop} {d : Nat} {x : Val} {v : V} {O : List Addr} (n : okRes x = true) (h : OR K H A (d + 1) x v O) : OR K H A' (d + 1) x v O := by
  cases x <;> first | exact h.noLst n | skip
  rename_i xs
  rcases h with ⟨ys, a, vs, O', e1, e2, e3, e4, t⟩ | ⟨nl, _, _⟩
  · cases e1
    exact .inl ⟨xs, a, vs, O', rfl, e2, e3, e4, t.noLsts n⟩
  · exact absurd rfl (nl xs)
end Mp
set_option Elab.async false
set_option linter.all false
set_option maxRecDepth 10000
/-! # Mp: a call of a def. -/
namespace Mp
open PySem PySem.Spec PyProof.Rows L2

theorem puts_len : ∀ {is : List Nat} {vs : List Val} {e e' : Env}, puts is vs e = some e' → e'.length = e.length
  | [], [], e, e', h => by cases h; rfl
  | [], _ :: _, _, _, h => by cases h
  | _ :: _, [], _, _, h => by cases h
  | i :: is, v :: vs, e, e', h => by
    have h : puts is vs (st e i v) = some e' := h
    rw [puts_len h, st_len]
/-- what the callee's parameters own -/
def cO (es : List E) (O : Own) : Own := fun p => match es[p]? with
  | some (.io i) => O i
  | _ => []
theorem cO_io {es : List E} {O : Own} {p i : Nat} (h : es[p]? = some (.io i)) : cO es O p = O i := by
  unfold cO
  rw [h]
theorem cO_mem {es : List E} {O : Own} {p : Nat} {a : Addr} (h : a ∈ cO es O p) : ∃ i, es[p]? = some (.io i) ∧ a ∈ O i := by
  unfold cO at h
  split at h
  · rename_i i e
    exact ⟨i, e, h⟩
  · cases h
def cG (G : Addr → Prop) (O : Own) (js : List Nat) (brw : Nat) : Addr → Prop := fun a => G a ∧ (brw = 0 → ∀ i, i ∉ js → a ∉ O i)
open Classical in
/-- .. and behind the call -/
noncomputable def bO (es : List E) (O O2 : Own) : Own := fun i => if h : ∃ p : Nat, es[p]? = some (.io i) then O2 (choose h) else O i
section
variable {K : PySem.W.Frag} {H H2 : Hp} {G : Addr → Prop} {ks kdc : List Nat} {O O2 : Own} {env env' : Env} {σ : L2.St} {es : List E} {xs : List Val} {vs : List V} {js : List Nat} {brw : Nat} {outs : List Val}
theorem bO_io (ok : ioOk kdc es js = true) (nd : js.Nodup) {p i : Nat} (h : es[p]? = some (.io i)) : bO es O O2 i = O2 p := by
  unfold bO
  rw [dif_pos ⟨p, h⟩]
  have hc := Classical.choose_spec (⟨p, h⟩ : ∃ p : Nat, es[p]? = some (.io i))
  rw [ioOk_inj ok nd hc h]
theorem bO_out (ok : ioOk kdc es js = true) {i : Nat} (h : i ∉ js) : bO es O O2 i = O i := by
  unfold bO
  rw [dif_neg]
  rintro ⟨p, hp⟩
  obtain ⟨k, _, h2, h3⟩ := ioOk_at ok hp
  by_cases z : k = 0
  · have := h2 z
    cases this
  · obtain ⟨i', e, m⟩ := h3 z
    cases e
    exact h m
theorem io_js (ok : ioOk kdc es js = true) {p i : Nat} (h : es[p]? = some (.io i)) : i ∈ js ∧ ∃ k, kdc[p]? = some (k + 1) := by
  obtain ⟨k, h1, h2, h3⟩ := ioOk_at ok h
  cases k with
  | zero => cases h2 rfl
  | succ k =>
    obtain ⟨i', e, m⟩ := h3 (Nat.succ_ne_zero k)
    cases e
    exact ⟨m, k, h1⟩
theorem kd_get {ks : List Nat} {p k : Nat} (h : ks[p]? = some k) : kd ks p = k := by
  unfold kd
  rw [List.getD_eq_getElem?_getD, h]
  rfl
/-- the callee's state at its entry -/
theorem call_in (S : Stt K H G ks env σ O) (ok : ioOk kdc es js = true) (hk : ioKs ks kdc es = true) (nd : js.Nodup) (o : Oprs K H G ks O σ es xs vs) (df : defd (fill es xs env) = true)
    (hb : brw = 0 → safeL ks es = true) (ha : awayL ks es js = true) (h2 : twoL ks es = true) : Stt K H (cG G O js brw) kdc (fill es xs env) (vs.map some) (cO es O) := by
  have hlen := o.length
  have flen : (fill es xs env).length = es.length := fill_len hlen.1
  have aa : ∀ a, H a ≠ none → AA G O a → AA (cG G O js brw) (cO es O) a := fun a _ h => ⟨⟨h.1, fun _ i _ => h.2 i⟩, fun p z => by
    obtain ⟨i, _, q⟩ := cO_mem z
    exact h.2 i q⟩
  refine ⟨fun p z => ?_, fun p z => ?_, fun p => ?_, fun p q a hp hq => ?_, fun p a hp => ?_, fun a h => ⟨S.fresh a h, fun _ i _ => S.out h i⟩, by rw [flen, List.length_map, hlen.2]; exact Nat.le_refl _⟩
  · have hp : p < es.length := by rw [← flen]; exact gt_lt z
    obtain ⟨e, he⟩ : ∃ e, es[p]? = some e := ⟨es[p], List.getElem?_eq_getElem hp⟩
    obtain ⟨x, v, q1, q2, q3⟩ := o.at he
    refine ⟨v, by rw [List.getElem?_map, q2]; rfl, ?_⟩
    rw [gt_some (fill_at he q1)] at z ⊢
    cases hio : isIo e with
    | true =>
      obtain ⟨i, rfl⟩ := io_iff.mp hio
      have hi : gt env i ≠ .undef := z
      obtain ⟨w, r1, r2⟩ := S.slot i hi
      have q3 : σ[i]? = some (some v) := q3
      rw [q3] at r1
      cases r1
      have kk := ioKs_at hk he (by rw [ioOk_len ok]; exact hp)
      rw [kd_get kk, cO_io he]
      exact r2.mono aa
    | false =>
      rw [isIoOf_none hio] at q3
      have q3 : Opr K H G O (ud ks e) (root e) x v := q3
      obtain ⟨k0, k1, _, k3⟩ := ioOk_at ok he
      have k0z : k0 = 0 := by
        by_cases z : k0 = 0
        · exact z
        · obtain ⟨i, e1, _⟩ := k3 z
          subst e1
          cases hio
      rw [kd_get k1, k0z]
      have f1 : fill1 e x env = x := by cases e <;> first | rfl | cases hio
      rw [f1]
      have c0 : cO es O p = [] := by
        unfold cO
        rw [he]
        cases e <;> first | rfl | cases hio
      rw [c0]
      refine .inr ⟨by decide, ?_, rfl⟩
      -- whoever owns it: its lists lie where the callee may look
      rcases q3 with ⟨Or, ⟨e3, _⟩ | ⟨n3, hO⟩, ho⟩ | hv
      · have := twoL_at h2 he
        omega
      · refine hO.free aa fun a hm => ⟨⟨S.own _ a (ho a hm), fun b0 i _ hi => ?_⟩, fun q z => ?_⟩
        · have u0 := safeL_at (hb b0) he
          rw [u0] at hO
          rw [hO.2] at hm
          cases hm
        · obtain ⟨i, he2, hi⟩ := cO_mem z
          rcases awayL_at ha he with u0 | nr
          · rw [u0] at hO
            rw [hO.2] at hm
            cases hm
          · have := S.dj i (root e) a hi (ho a hm)
            subst this
            exact nr (io_js ok he2).1
      · exact hv.mono aa
  · by_cases hp : p < es.length
    · exact absurd z (defd_at df (by rw [flen]; exact hp))
    · unfold cO
      rw [List.getElem?_eq_none_iff.mpr (by omega)]
  · unfold cO
    split
    · exact S.nd _
    · exact .nil
  · obtain ⟨i, h1, h3⟩ := cO_mem hp
    obtain ⟨j, h4, h5⟩ := cO_mem hq
    have := S.dj i j a h3 h5
    subst this
    exact ioOk_inj ok nd h1 h4
  · obtain ⟨i, h1, h3⟩ := cO_mem hp
    refine ⟨S.own i a h3, fun _ j hj h5 => ?_⟩
    have := S.dj i j a h3 h5
    subst this
    exact hj (io_js ok h1).1
/-- what lies where the callee may put lists lies where the caller may -/
theorem aa_out (S : Stt K H G ks env σ O) (ok : ioOk kdc es js = true) (nd : js.Nodup) (b0 : brw = 0) {a : Addr} (h : AA (cG G O js brw) O2 a) : AA G (bO es O O2) a := ⟨h.1.1, fun i z => by
  by_cases hi : i ∈ js
  · obtain ⟨p, hp⟩ := ioOk_js ok hi
    rw [bO_io ok nd hp] at z
    exact h.2 p z
  · rw [bO_out ok hi] at z
    exact h.1.2 b0 i hi z⟩
/-- the caller's state behind the call -/
theorem call_outB {B : List Addr} (S : Stt K H G ks env σ O) (ok : ioOk kdc es js = true) (hk : ioKs ks kdc es = true) (nd : js.Nodup) (o : Oprs K H G ks O σ es xs vs) (df : defd (fill es xs env) = true)
    (p : Pst K H (cG G O js brw) kdc (cO es O) (ioS kdc 0) (outEnv kdc outs) (vs.map some) H2 O2) (pS : Stt K H2 (GX (cG G O js brw) B) kdc (outEnv kdc outs) (vs.map some) O2) (hB : ∀ a, a ∈ B → H a = none) (hp : puts js outs env = some env') (hr : brw ≠ 0 → (∀ q k : Nat, kdc[q]? = some k → k ≤ 1) ∧ outs.all okRes = true) : Stt K H2 (GX G B) ks env' σ (bO es O O2) := by
  have hlen := o.length
  have flen : (fill es xs env).length = es.length := fill_len hlen.1
  obtain ⟨g1, g2⟩ := puts_at (kd := kdc) (es := es) ok nd hp
  have ioenv : ∀ q i : Nat, es[q]? = some (.io i) → gt env i ≠ .undef := fun q i he => by
    have hq : q < es.length := (List.getElem?_eq_some_iff.mp he).1
    obtain ⟨x, v, q1, _, _⟩ := o.at he
    have := defd_at df (p := q) (by rw [flen]; exact hq)
    rw [gt_some (fill_at he q1)] at this
    exact this
  have io0 : ∀ q i : Nat, es[q]? = some (.io i) → q ∈ ioS kdc 0 := fun q i he => by
    obtain ⟨k, hk⟩ := (io_js ok he).2
    exact mem_ioS.mpr ⟨q, k, by omega, hk⟩
  have ext : ∀ a o', H a = some o' → (∀ i, i ∈ js → a ∉ O i) → H2 a = some o' := fun a o' h n => p.ext a o' h fun q hq z => by
    obtain ⟨i, he, hi⟩ := cO_mem z
    exact n i (io_js ok he).1 hi
  have ex : Ext (fun a => ∃ i, i ∈ js ∧ a ∈ O i) H H2 := ⟨fun a o' h n => ext a o' h fun i hi z => n ⟨i, hi, z⟩, fun a ⟨i, _, z⟩ => S.there z⟩
  have aa : ∀ a, H a ≠ none → AA G O a → AA (GX G B) (bO es O O2) a := fun a n h => ⟨⟨h.1, fun z => n (hB a z)⟩, fun i z => by
    by_cases hi : i ∈ js
    · obtain ⟨q, he⟩ := ioOk_js ok hi
      rw [bO_io ok nd he] at z
      rcases p.new q a z with y | y
      · rw [cO_io he] at y
        exact h.2 i y
      · exact n y
    · rw [bO_out ok hi] at z
      exact h.2 i z⟩
  have io_new : ∀ (q i : Nat) (a : Addr), es[q]? = some (.io i) → a ∈ O2 q → a ∈ O i ∨ H a = none := fun q i a he z => by
    rcases p.new q a z with y | y
    · rw [cO_io he] at y
      exact .inl y
    · exact .inr y
  refine ⟨fun i z => ?_, fun i z => ?_, fun i => ?_, fun i j a hi hj => ?_, fun i a z => ?_, fun a h => ⟨S.fresh a (p.dom a h), fun z => (pS.fresh a h).2 z⟩, by rw [puts_len hp]; exact S.len⟩
  · by_cases hi : i ∈ js
    · obtain ⟨q, he⟩ := ioOk_js ok hi
      rw [bO_io ok nd he]
      rw [g1 q i he (gt_lt (ioenv q i he))] at z ⊢
      obtain ⟨w, r1, r2⟩ := pS.slot q z
      obtain ⟨x, v, q1, q2, q3⟩ := o.at he
      have q3 : σ[i]? = some (some v) := q3
      rw [List.getElem?_map, q2] at r1
      have e := Option.some.inj (Option.some.inj r1)
      subst e
      refine ⟨v, q3, ?_⟩
      have kk := ioKs_at hk he (by rw [ioOk_len ok]; exact (List.getElem?_eq_some_iff.mp he).1)
      rw [kd_get kk] at r2
      by_cases b0 : brw = 0
      · exact r2.mono fun a _ h => ⟨⟨h.1.1.1, h.1.2⟩, (aa_out S ok nd b0 ⟨h.1.1, h.2⟩).2⟩
      · obtain ⟨h1, h3⟩ := hr b0
        have k1 := h1 _ _ kk
        obtain ⟨kp, hkp⟩ := (io_js ok he).2
        rw [kk] at hkp
        have hkp := Option.some.inj hkp
        have k1' : kd ks i = 1 := by omega
        rw [k1'] at r2 ⊢
        rcases r2 with ⟨e3, _⟩ | ⟨n3, r2⟩
        · cases e3
        · refine .inr ⟨n3, r2.okRes ?_⟩
          -- it is one of those handed back
          have key : ∀ {kk' : List Nat} {os : List Val} {q : Nat}, os.all okRes = true → gt (outEnv kk' os) q ≠ .undef → okRes (gt (outEnv kk' os) q) = true := by
            intro kk'
            induction kk' with
            | nil => intro os q _ n; exact absurd (by cases q <;> rfl) n
            | cons k kr ih =>
              intro os q ha n
              cases k with
              | zero =>
                cases q with
                | zero => exact absurd rfl n
                | succ q => exact ih (q := q) ha n
              | succ k =>
                cases os with
                | nil =>
                  cases q with
                  | zero => exact absurd rfl n
                  | succ q => exact ih (q := q) ha n
                | cons v r =>
                  rw [List.all_cons] at ha
                  obtain ⟨a1, a2⟩ := Bool.and_eq_true_iff.mp ha
                  cases q with
                  | zero => exact a1
                  | succ q => exact ih (q := q) a2 n
          exact key h3 z
    · rw [g2 i hi] at z ⊢
      rw [bO_out ok hi]
      obtain ⟨w, r1, r2⟩ := S.slot i z
      refine ⟨w, r1, r2.step ex (fun a _ h ⟨j, _, m⟩ => h.2 j m) aa fun a ha ⟨j, hj, m⟩ => ?_⟩
      have := S.dj i j a ha m
      subst this
      exact hi hj
  · by_cases hi : i ∈ js
    · obtain ⟨q, he⟩ := ioOk_js ok hi
      rw [bO_io ok nd he]
      rw [g1 q i he (gt_lt (ioenv q i he))] at z
      exact p.st.emp q z
    · rw [g2 i hi] at z
      rw [bO_out ok hi]
      exact S.emp i z
  · by_cases hi : i ∈ js
    · obtain ⟨q, he⟩ := ioOk_js ok hi
      rw [bO_io ok nd he]
      exact p.st.nd q
    · rw [bO_out ok hi]
      exact S.nd i
  · by_cases h1 : i ∈ js
    · obtain ⟨q, he⟩ := ioOk_js ok h1
      rw [bO_io ok nd he] at hi
      by_cases h2 : j ∈ js
      · obtain ⟨r, hf⟩ := ioOk_js ok h2
        rw [bO_io ok nd hf] at hj
        have := p.st.dj q r a hi hj
        subst this
        rw [he] at hf
        cases hf
        rfl
      · rw [bO_out ok h2] at hj
        rcases io_new q i a he hi with y | y
        · exact S.dj i j a y hj
        · exact absurd hj (S.out y j)
    · rw [bO_out ok h1] at hi
      by_cases h2 : j ∈ js
      · obtain ⟨r, hf⟩ := ioOk_js ok h2
        rw [bO_io ok nd hf] at hj
        rcases io_new r j a hf hj with y | y
        · exact S.dj i j a hi y
        · exact absurd hi (S.out y i)
      · rw [bO_out ok h2] at hj
        exact S.dj i j a hi hj
  · by_cases hi : i ∈ js
    · obtain ⟨q, he⟩ := ioOk_js ok hi
      rw [bO_io ok nd he] at z
      exact ⟨(p.st.own q a z).1, (pS.own q a z).2⟩
    · rw [bO_out ok hi] at z
      refine ⟨S.own i a z, fun y => ?_⟩
      obtain ⟨xs, hx⟩ := S.there z
      rw [hB a y] at hx
      cases hx
/-- the caller's state behind the call -/
theorem call_out (S : Stt K H G ks env σ O) (ok : ioOk kdc es js = true) (hk : ioKs ks kdc es = true) (nd : js.Nodup) (o : Oprs K H G ks O σ es xs vs) (df : defd (fill es xs env) = true)
    (p : Pst K H (cG G O js brw) kdc (cO es O) (ioS kdc 0) (outEnv kdc outs) (vs.map some) H2 O2) (hp : puts js outs env = some env') (hr : brw ≠ 0 → (∀ q k : Nat, kdc[q]? = some k → k ≤ 1) ∧ outs.all okRes = true) : Pst K H G ks O js env' σ H2 (bO es O O2) := by
  refine ⟨fun a o' h n => p.ext a o' h fun q hq z => ?_, p.dom, fun i hi => bO_out ok hi, fun i a z => ?_, (call_outB (B := []) S ok hk nd o df p p.st.nil (fun _ z => nomatch z) hp hr).mono fun a h => h.1⟩
  · obtain ⟨i, he, hi⟩ := cO_mem z
    exact n i (io_js ok he).1 hi
  · by_cases hi : i ∈ js
    · obtain ⟨q, he⟩ := ioOk_js ok hi
      rw [bO_io ok nd he] at z
      rcases p.new q a z with y | y
      · rw [cO_io he] at y
        exact .inl y
      · exact .inr y
    · rw [bO_out ok hi] at z
      exact .inl z
/-- the value handed back -/
theorem call_res {d : Nat} {x : Val} {w : V} (S : Stt K H G ks env σ O) (ok : ioOk kdc es js = true) (hk : ioKs ks kdc es = true) (nd : js.Nodup) (o : Oprs K H G ks O σ es xs vs) (df : defd (fill es xs env) = true)
    (p : Pst K H (cG G O js brw) kdc (cO es O) (ioS kdc 0) (outEnv kdc outs) (vs.map some) H2 O2) (hp : puts js outs env = some env') (hr' : brw ≠ 0 → (∀ q k : Nat, kdc[q]? = some k → k ≤ 1) ∧ outs.all okRes = true)
    (n : NewV K H H2 (cG G O js brw) kdc (outEnv kdc outs) (vs.map some) O2 d x w) (hr : brw ≠ 0 → (brw = 1 ∧ noLst x = true) ∨ (1 ≤ d ∧ okRes x = true)) : NewV K H H2 G ks env' σ (bO es O O2) d x w := by
  obtain ⟨Ow, h1, h2, h3, h4⟩ := n
  refine ⟨Ow, ?_, h2, fun a ha => ⟨(h3 a ha).1, (h3 a ha).2.1.1, fun i z => ?_⟩, call_outB S ok hk nd o df p h4 (fun a ha => (h3 a ha).1) hp hr'⟩
  · by_cases b0 : brw = 0
    · exact h1.mono fun a _ h => ⟨⟨h.1.1.1, h.1.2⟩, (aa_out S ok nd b0 ⟨h.1.1, h.2⟩).2⟩
    · rcases hr b0 with ⟨_, q⟩ | ⟨q1, q2⟩
      · exact h1.noLst q
      · cases d with
        | zero => omega
        | succ d => exact h1.okRes q2
  · by_cases hi : i ∈ js
    · obtain ⟨p, hp⟩ := ioOk_js ok hi
      rw [bO_io ok nd hp] at z
      exact (h3 a ha).2.2 p z
    · rw [bO_out ok hi] at z
      exact S.out (h3 a ha).1 i z
end
section
variable {T : Tab} {N : List Str} {k : Nat} {X : Cx} {P : Par} {s : Sx} {ks : List Nat} {e : Expr} {m : E}
theorem pe_callS0 {CX : CXT} {k : Nat} {f : Addr} {fd : FuncData} {ps : List Str} {sp : Sp} {E : L2.St → XK} {x : Str} {p pos : Pos} (F : FnOk X.prog X.w X.K X.mg X.base CX k f fd ps sp) (hr : Room k X.A) (hg : Gl X x) (hm : X.mg x = some (.ref f)) (hk : PySem.W.keepIn X.K (.ref f) = true) (hb : Binds X.K fd ps []) (hx : ∀ σ, PassesAt CX X σ (E σ))
    (hdb : (x == ("__debug__" : Str)) = false) : PE X (.Call (.Name x p) [] [] pos) (tCallS sp E tNil) := by
  refine ⟨fun pins s σ H Q I h => ?_⟩
  refine wpAny_Call_Name_kw (ld_glob I hg hm ?_ hdb)
  exact PySem.W.callWith_K0 I.kIn hk (run_fnS (us := []) F hr hb (hx σ) I .nil h)
theorem sel_goo {σ : L2.St} {H : Hp} {G : Addr → Prop} {O : Own} {M : List Nat} {T1 : Val → Env → Hp → Own → Prop} {c : Bool} {r : R Val} (g : Goo P σ H G ks O M T1 (sel c r .bad)) : c = true ∧ Goo P σ H G ks O M T1 r := by
  cases c with
  | false => exact g.elim
  | true => exact ⟨rfl, g⟩
theorem maxN_le : ∀ {l : List Nat} {p k : Nat}, l[p]? = some k → k ≤ maxN l
  | [], _, _, h => by simp at h
  | a :: r, 0, k, h => by
    simp at h
    subst h
    exact Nat.le_max_left _ _
  | a :: r, p + 1, k, h => Nat.le_trans (maxN_le (l := r) (p := p) (by simpa using h)) (Nat.le_max_right _ _)
theorem call_core {f : Nat} {fn : Fn} {es : List E} {js : List Nat} {brw : Nat} {σ : L2.St} {H : Hp} {G : Addr → Prop} {O : Own} {env : Env} {M : List Nat} {xs : List Val} {vs : List V} {Q : VK} (hf : fnAt T.P f = some fn) (hw : wfE T ks (.call f es js brw) = true) (ok : ioOk fn.kd es js = true) (hl : es.length = fn.np) (S : Stt P.K H G ks env σ O) (o : Oprs P.K H G ks O σ es xs vs) (hM : ∀ i, i ∈ js → i ∈ M)
    (g : Goo P σ H G ks O M (fun x e' H' O' => ∀ v, NewV P.K H H' G ks e' σ O' fn.fr x v → Q v H') (sel (defd (fill es xs env)) (vBack js brw env (P.C f (fill es xs env))) .bad)) : spF P f fn vs H Q (WE P.W σ) := by
  obtain ⟨df, g⟩ := sel_goo g
  unfold wfE at hw
  simp only [Bool.and_eq_true] at hw
  obtain ⟨⟨⟨⟨⟨⟨⟨w1, w2⟩, w3⟩, w4⟩, w5⟩, w6⟩, w7⟩, w8⟩ := hw
  have hkd : fnKd T f = fn.kd := by unfold fnKd; rw [hf]
  have hfr : fnFr T f = fn.fr := by unfold fnFr; rw [hf]
  rw [hkd] at w4 w3
  rw [hfr] at w3
  have nd := nodupN_iff.mp w5
  have hb0 : brw = 0 → safeL ks es = true := fun z => by subst z; exact w3
  refine ⟨fill es xs env, cG G O js brw, cO es O, by rw [o.length.2, hl], by rw [fill_len o.length.1, hl], fun i hi => defd_at df (by rw [fill_len o.length.1, hl]; exact hi), call_in S ok w4 nd o df hb0 w6 w7, ?_⟩
  cases hC : P.C f (fill es xs env) with
  | bad =>
    rw [hC] at g
    exact g
  | exc x outs =>
    rw [hC] at g
    intro H2 O2 cls d p hx
    have g : Goo P σ H G ks O M (fun x e' H' O' => ∀ v, NewV P.K H H' G ks e' σ O' fn.fr x v → Q v H') (sel (okX brw outs) (excCall x (puts js outs env)) .bad) := g
    obtain ⟨hox, g⟩ := sel_goo g
    cases hp : puts js outs env with
    | none => rw [hp] at g; exact g.elim
    | some env' =>
      rw [hp] at g
      refine g cls d H2 (bO es O O2) ((call_out S ok w4 nd o df p hp fun b0 => ?_).mono hM) hx
      match brw, b0, w3, hox with
      | 1, _, w3, hox => exact ⟨fun q k hq => Nat.le_trans (maxN_le hq) (Nat.le_of_ble_eq_true w3), hox⟩
      | n + 2, _, w3, hox =>
        have w3 : (Nat.ble (maxN fn.kd) 1 && Nat.ble 1 fn.fr) = true := w3
        exact ⟨fun q k hq => Nat.le_trans (maxN_le hq) (Nat.le_of_ble_eq_true (Bool.and_eq_true_iff.mp w3).1), hox⟩
  | ok x outs =>
    rw [hC] at g
    intro H2 O2 w p hx
    have g : Goo P σ H G ks O M (fun x e' H' O' => ∀ v, NewV P.K H H' G ks e' σ O' fn.fr x v → Q v H') (okCall (okBrw brw x outs) x (puts js outs env)) := g
    cases hp : puts js outs env with
    | none => rw [hp] at g; exact g.elim
    | some env' =>
      rw [hp] at g
      obtain ⟨hbr, g⟩ := sel_goo (P := P) (ks := ks) (r := .ok x env') g
      have hr : brw ≠ 0 → (∀ q k : Nat, fn.kd[q]? = some k → k ≤ 1) ∧ outs.all okRes = true := fun b0 => by
        match brw, b0, w3, hbr with
        | 1, _, w3, hbr => exact ⟨fun q k hq => Nat.le_trans (maxN_le hq) (Nat.le_of_ble_eq_true w3), (Bool.and_eq_true_iff.mp hbr).1⟩
        | n + 2, _, w3, hbr =>
          have w3 : (Nat.ble (maxN fn.kd) 1 && Nat.ble 1 fn.fr) = true := w3
          have hbr : (outs.all okRes && okRes x) = true := hbr
          exact ⟨fun q k hq => Nat.le_trans (maxN_le hq) (Nat.le_of_ble_eq_true (Bool.and_eq_true_iff.mp w3).1), (Bool.and_eq_true_iff.mp hbr).1⟩
      refine g H2 (bO es O O2) ((call_out S ok w4 nd o df p hp hr).mono hM) w (call_res S ok w4 nd o df p hp hr hx fun b0 => ?_)
      match brw, b0, w3, hbr with
      | 1, _, w3, hbr => exact .inl ⟨rfl, (Bool.and_eq_true_iff.mp hbr).2⟩
      | n + 2, _, w3, hbr =>
        have w3 : (Nat.ble (maxN fn.kd) 1 && Nat.ble 1 fn.fr) = true := w3
        have hbr : (outs.all okRes && okRes x) = true := hbr
        exact .inr ⟨Nat.le_of_ble_eq_true (Bool.and_eq_true_iff.mp w3).2, (Bool.and_eq_true_iff.mp hbr).2⟩
theorem fnIs_of {f : Nat} {x : Str} {n : Nat} (h : fnIs T f x n = true) : ∃ fn, fnAt T.P f = some fn ∧ fn.name = x ∧ fn.np = n := by
  unfold fnIs at h
  split at h
  · rename_i fn hf
    obtain ⟨h1, h2⟩ := Bool.and_eq_true_iff.mp h
    exact ⟨fn, hf, eq_of_beq h1, eq_of_beq h2⟩
  · cases h
theorem snd_call {f : Nat} {es : List E} {js : List Nat} {brw : Nat} (il : ∀ a, a ∈ es → Snd T N k a) : Snd T N k (.call f es js brw) := by
  intro X P s ks e cx hc hw
  unfold chkE at hc
  split at hc
  · rename_i x p xs pos
    simp only [Bool.and_eq_true] at hc
    obtain ⟨⟨⟨h1, h2⟩, h3⟩, h4⟩ := hc
    obtain ⟨fn, hf, rfl, hnp⟩ := fnIs_of h2
    obtain ⟨hg, ho⟩ := isGl_of cx h1
    obtain ⟨a, fd, ps, hm, hk, hb, F⟩ := cx.fns f fn hf
    have hkd : fnKd T f = fn.kd := by unfold fnKd; rw [hf]
    have hfr : fnFr T f = fn.fr := by unfold fnFr; rw [hf]
    rw [hkd] at h3
    have hw' := hw
    unfold wfE at hw'
    simp only [Bool.and_eq_true] at hw'
    obtain ⟨⟨⟨⟨⟨⟨⟨w1, w2⟩, w3⟩, w4⟩, w5⟩, w6⟩, w7⟩, w8⟩ := hw'
    have pa := sndL_of il X P s ks xs cx h4 w1 w2
    have key : PE X (.Call (.Name fn.name p) xs [] pos) (tCallS (spF P f fn) (WE P.W) (rdA P ks es)) := by
      cases xs with
      | nil =>
        cases es with
        | cons _ _ => unfold chkL at h4; cases h4
        | nil => exact (pe_callS0 F cx.room hg hm hk hb (fun σ => passAt cx.tk σ) (okName_of ho).1).imp fun σ H Q ⟨G, O, env, S, g⟩ => g.ok S [] ⟨rfl, rfl⟩
      | cons y yr =>
        have hns : noStar y = true ∧ (backTo pos (starEach yr X.env)).any (·.1) = false := by
          cases es with
          | nil => unfold chkL at h4; cases h4
          | cons _ _ => unfold chkL at h4; simp only [Bool.and_eq_true] at h4; exact ⟨h4.1.1, (chkL_plain h4.2).1⟩
        exact pe_callS F cx.room hg hm hk hb (fun σ => passAt cx.tk σ) pa (okName_of ho).1 (noStar_each hns.1) hns.2
    have kf : PE X (.Call (.Name fn.name p) xs [] pos) (rdF P ks (.call f es js brw) fn.fr) := key.imp fun σ H Q ⟨G, O, env, S, g⟩ => by
      rw [ev_call] at g
      refine bindA (M := muts (.call f es js brw)) S (fun _ h => app_l h) g fun zs env1 vs H1 O1 p1 o1 g1 => ?_
      refine call_core hf hw h3 hnp.symm p1.st o1 (fun _ h => app_r h) (g1.imp (fun _ h => h) fun x e H' O' p t v n => t v (n.down p1))
    refine ⟨pe_ofF kf, pt_of (pe_ofF kf) (fun _ => rfl), not_bool rfl, fun d h1 h2 => ?_⟩
    have e1 : fr T ks (.call f es js brw) = fn.fr := hfr
    rw [hfr] at w8
    have w8 := Nat.le_of_ble_eq_true w8
    have e2 : d = fn.fr := by omega
    subst e2
    exact kf
  · cases hc
end
end Mp
set_option Elab.async false
set_option linter.all false
set_option maxRecDepth 10000
/-! # Mp: what is walked. -/
namespace Mp
open PySem PySem.Spec PyProof.Rows L2

def IV (K : PySem.W.Frag) (H : Hp) (A : Addr → Prop) : Tgt → Val → V → Prop
  | .one _, z, x => VR K H A z x
  | .tup _, z, x => ∀ ys, z = .tup ys → ∃ a vs, x = .ref a ∧ SqT K H a vs ∧ VRs K H A ys vs
theorem IV.of {K : PySem.W.Frag} {H : Hp} {A : Addr → Prop} {t : Tgt} {z : Val} {x : V} (h : VR K H A z x) : IV K H A t z x := by
  cases t with
  | one i => exact h
  | tup is =>
    intro ys e
    subst e
    obtain ⟨a, vs, e1, t, r⟩ := h
    exact ⟨a, vs, e1, t.sqt, r⟩
/-- the heap as it is, or one more object -/
def Yl (H H' : Hp) : Prop := H' = H ∨ ∃ p o, H p = none ∧ H' = upd H p o
/-- J walks over zs -/
def Wk (K : PySem.W.Frag) (ks : List Nat) (σ : L2.St) (t : Tgt) (srcs : List E) (xs : List Val) (vs : List V) (zs : List Val) (J : It) : Prop :=
  ∀ G H O, Oprs K H G ks O σ srcs xs vs → ∀ i, (∀ z, zs[i]? = some z → J.go i H ∧ ∀ x H', J.yld i H x H' → Yl H H' ∧ IV K H' (AA G O) t z x) ∧ (i = zs.length → J.stop i H)
/-- what is walked, as an iterator -/
def rdI (P : Par) (ks : List Nat) (t : Tgt) (k : Src) (srcs : List E) : TI := fun σ H R => ∃ G O env, Stt P.K H G ks env σ O ∧
  Goo P σ H G ks O (mutsL srcs) (fun xs _ H' O' => ∃ zs, items k xs = some zs ∧ ∀ vs, Oprs P.K H' G ks O' σ srcs xs vs → ∀ J, Wk P.K ks σ t srcs xs vs zs J → R J H') (evs P.C srcs env)
theorem VRs.new {K : PySem.W.Frag} {H : Hp} {A : Addr → Prop} {xs : List Val} {vs : List V} {p : Addr} {o : HO} (hp : H p = none) (r : VRs K H A xs vs) : VRs K (upd H p o) A xs vs :=
  r.step (Ch := fun _ => False) ⟨fun b u e _ => by rw [upd_ne (ne_of_none e hp)]; exact e, fun _ z => z.elim⟩ (fun _ _ _ z => z) fun a n ha => ha
theorem VR.new {K : PySem.W.Frag} {H : Hp} {A : Addr → Prop} {x : Val} {v : V} {p : Addr} {o : HO} (hp : H p = none) (r : VR K H A x v) : VR K (upd H p o) A x v :=
  r.step (Ch := fun _ => False) ⟨fun b u e _ => by rw [upd_ne (ne_of_none e hp)]; exact e, fun _ z => z.elim⟩ (fun _ _ _ z => z) fun a n ha => ha

/-! ### a value walked: a list, a tuple, a text -/
def iAny (K : PySem.W.Frag) (tl : TE) : TI := fun σ H R => tl σ H fun x H1 => (∃ a xs, x = .ref a ∧ SqL K H1 a xs ∧ R (Itl K a) H1) ∨ (∃ a xs, x = .ref a ∧ SqT K H1 a xs ∧ R (Itt K a) H1) ∨ ∃ z, x = .str z ∧ R (Its z) H1
theorem pi_any {X : Cx} {tg l : Expr} {tl : TE} (hl : PE X l tl) : PI X tg l (iAny X.K tl) := by
  refine ⟨fun pins s σ H R I h => ?_⟩
  refine thn (hl.run pins s σ H _ I h) fun v s1 ⟨x, H1, I1, r1, q1⟩ => ?_
  rcases q1 with ⟨a, xs, e, hq, q⟩ | ⟨a, xs, e, hq, q⟩ | ⟨z, e, q⟩
  · subst e
    cases r1
    obtain ⟨its, rv, p, hz⟩ := I1.list hq
    refine wpAny_pyIter_list p.isList ?_
    refine ⟨s1.heap.objs.size, [s1.heap.objs.size], _, _, H1, rfl, I1.kept (t' := s1.toks) fun b o e => Heap.get?_push_of_some _ e, turn_list a _, ⟨_, Heap.get?_push_size _ rfl, rfl, rfl⟩, fun b hb => ?_, q⟩
    have e : b = s1.heap.objs.size := by simpa using hb
    subst e
    exact I1.fpOk (Nat.le_refl _) (I1.hok.fresh (Nat.le_refl _))
  · subst e
    cases r1
    obtain ⟨its, rv, p, hz⟩ := I1.tuple hq
    refine wpAny_pyIter_tuple (show s1.heap.IsTuple a its.toArray from p) ?_
    refine ⟨s1.heap.objs.size, [s1.heap.objs.size], _, _, H1, rfl, I1.kept (t' := s1.toks) fun b o e => Heap.get?_push_of_some _ e, turn_tuple a _, ⟨_, Heap.get?_push_size _ rfl, rfl, rfl⟩, fun b hb => ?_, q⟩
    have e : b = s1.heap.objs.size := by simpa using hb
    subst e
    exact I1.fpOk (Nat.le_refl _) (I1.hok.fresh (Nat.le_refl _))
  · subst e
    obtain ⟨t, rfl⟩ := r1
    cases ha : z.cps.all (· < 128)
    · exact wpAny_pyIter_wide ha (pi_one (tk := s1.toks) I1 _ (turn_str _ z t "str_iterator" (.inr rfl)) ⟨_, Heap.get?_push_size _ rfl, rfl, rfl⟩ q)
    · exact wpAny_pyIter_ascii ha (pi_one (tk := s1.toks) I1 _ (turn_str _ z t "str_ascii_iterator" (.inl rfl)) ⟨_, Heap.get?_push_size _ rfl, rfl, rfl⟩ q)
section
variable {K : PySem.W.Frag} {ks : List Nat} {G : Addr → Prop} {σ : L2.St} {t : Tgt} {e f : E} {xs zs ys : List Val} {vs ws : List V} {a b : Addr} {v : V}
theorem io_of {e : E} (h : isIo e = false) : noIos [e] = true := by
  unfold noIos
  rw [h]
  rfl
theorem wk_list (hio : isIo e = false) (hu : ud ks e ≤ 1) : Wk K ks σ t [e] [.lst zs] [.ref a] zs (Itl K a) := fun G H O o i => by
  obtain ⟨e', v, h1, h2, o1⟩ := o.one (io_of hio)
  cases h1
  cases h2
  obtain ⟨a', us, h3, hl, r⟩ := o1.lst hu
  cases h3
  refine ⟨fun z hz => ?_, fun h => ⟨us, SqL.of hl, by rw [r.length]; omega⟩⟩
  obtain ⟨w, hw, rw'⟩ := r.get hz
  refine ⟨⟨us, w, SqL.of hl, hw⟩, fun x H' ⟨h4, h5⟩ => ?_⟩
  subst h4
  have := h5 us (SqL.of hl)
  rw [hw] at this
  cases this
  exact ⟨.inl rfl, .of rw'⟩
theorem wk_tup (hio : isIo e = false) : Wk K ks σ t [e] [.tup zs] [.ref a] zs (Itt K a) := fun G H O o i => by
  obtain ⟨e', v, h1, h2, o1⟩ := o.one (io_of hio)
  cases h1
  cases h2
  obtain ⟨a', us, h3, hl, r⟩ := o1.tup
  cases h3
  refine ⟨fun z hz => ?_, fun h => ⟨us, hl.sqt, by rw [r.length]; omega⟩⟩
  obtain ⟨w, hw, rw'⟩ := r.get hz
  refine ⟨⟨us, w, hl.sqt, hw⟩, fun x H' ⟨h4, h5⟩ => ?_⟩
  subst h4
  have := h5 us hl.sqt
  rw [hw] at this
  cases this
  exact ⟨.inl rfl, .of rw'⟩
theorem wk_str {s : Str} (hio : isIo e = false) : Wk K ks σ t [e] [.str s] [.str s] (s.cps.toList.map fun c => .str ⟨#[c]⟩) (Its s) := fun G H O o i => by
  obtain ⟨e', v, h1, h2, o1⟩ := o.one (io_of hio)
  cases h1
  cases h2
  obtain ⟨_, q1, q2⟩ := o1.str
  refine ⟨fun z hz => ?_, fun h => ?_⟩
  · rw [List.getElem?_map] at hz
    obtain ⟨c, hc, rfl⟩ := Option.map_eq_some_iff.mp hz
    have hc' : s.cps[i]? = some c := by rw [← Array.getElem?_toList]; exact hc
    refine ⟨(Array.getElem?_eq_some_iff.mp hc').1, fun x H' ⟨h4, c', h5, h6⟩ => ?_⟩
    subst h4 h6
    rw [hc'] at h5
    cases h5
    exact ⟨.inl rfl, .of ⟨rfl, strOk_at q1 hc, rfl⟩⟩
  · show s.cps.size ≤ i
    rw [h, List.length_map, Array.length_toList]
    exact Nat.le_refl _
theorem upFrom_at : ∀ {n i : Nat} {a : Int} {z : Val}, (upFrom a n)[i]? = some z → i < n ∧ z = .int (a + i)
  | 0, i, a, z, h => by simp [upFrom] at h
  | n + 1, 0, a, z, h => by
    simp [upFrom] at h
    exact ⟨Nat.succ_pos _, by rw [← h]; simp⟩
  | n + 1, i + 1, a, z, h => by
    obtain ⟨h1, h2⟩ := upFrom_at (n := n) (i := i) (a := a + 1) (by simpa [upFrom] using h)
    refine ⟨by omega, ?_⟩
    rw [h2]
    congr 1
    omega
theorem upFrom_len : ∀ (n : Nat) (a : Int), (upFrom a n).length = n
  | 0, _ => rfl
  | n + 1, a => by unfold upFrom; rw [List.length_cons, upFrom_len n]
theorem rangeC_at : ∀ {n i : Nat} {a c : Int} {z : Val}, (rangeC a c n)[i]? = some z → i < n ∧ z = .int (a + (i : Nat) * c)
  | 0, i, a, c, z, h => by simp [rangeC] at h
  | n + 1, 0, a, c, z, h => by
    simp [rangeC] at h
    exact ⟨Nat.succ_pos _, by rw [← h]; simp⟩
  | n + 1, i + 1, a, c, z, h => by
    obtain ⟨h1, h2⟩ := rangeC_at (n := n) (i := i) (a := a + c) (c := c) (by simpa [rangeC] using h)
    refine ⟨by omega, ?_⟩
    rw [h2]
    congr 1
    rw [Int.natCast_succ, Int.add_mul]
    omega
theorem rangeC_len : ∀ (n : Nat) (a c : Int), (rangeC a c n).length = n
  | 0, _, _ => rfl
  | n + 1, a, c => by unfold rangeC; rw [List.length_cons, rangeC_len n]
theorem wk_range {n : Nat} {lo : Int} {srcs : List E} : Wk K ks σ t srcs xs vs (upFrom lo n) (Itr lo n) := fun G H O o i => by
  refine ⟨fun z hz => ?_, fun h => by rw [upFrom_len] at h; exact Nat.le_of_eq h.symm⟩
  obtain ⟨h1, rfl⟩ := upFrom_at hz
  refine ⟨h1, fun x H' ⟨h4, h5⟩ => ?_⟩
  subst h4 h5
  exact ⟨.inl rfl, .of rfl⟩
theorem wk_rangeC {n : Nat} {lo c : Int} {srcs : List E} : Wk K ks σ t srcs xs vs (rangeC lo c n) (Itc lo c n) := fun G H O o i => by
  refine ⟨fun z hz => ?_, fun h => by rw [rangeC_len] at h; exact Nat.le_of_eq h.symm⟩
  obtain ⟨h1, rfl⟩ := rangeC_at hz
  refine ⟨h1, fun x H' ⟨h4, h5⟩ => ?_⟩
  subst h4 h5
  exact ⟨.inl rfl, .of rfl⟩
theorem rev_at {xs : List Val} {i : Nat} {z : Val} (h : xs.reverse[i]? = some z) : i < xs.length ∧ xs[xs.length - 1 - i]? = some z := by
  have hi : i < xs.length := by
    have := (List.getElem?_eq_some_iff.mp h).1
    simpa using this
  exact ⟨hi, by rw [List.getElem?_reverse hi] at h; exact h⟩
theorem wk_revL (hio : isIo e = false) (hu : ud ks e ≤ 1) : Wk K ks σ t [e] [.lst zs] [.ref a] zs.reverse (Itv K a zs.length) := fun G H O o i => by
  obtain ⟨e', v, h1, h2, o1⟩ := o.one (io_of hio)
  cases h1
  cases h2
  obtain ⟨a', us, h3, hl, r⟩ := o1.lst hu
  cases h3
  refine ⟨fun z hz => ?_, fun h => ?_⟩
  · obtain ⟨hi, hz⟩ := rev_at hz
    obtain ⟨w, hw, rw'⟩ := r.get hz
    refine ⟨⟨hi, us, w, SqL.of hl, hw⟩, fun x H' ⟨h4, h5⟩ => ?_⟩
    subst h4
    have := h5 us (SqL.of hl)
    rw [hw] at this
    cases this
    exact ⟨.inl rfl, .of rw'⟩
  · rw [List.length_reverse] at h
    exact Nat.le_of_eq h.symm
theorem wk_revT (hio : isIo e = false) : Wk K ks σ t [e] [.tup zs] [.ref a] zs.reverse (RT.ItvT K a zs.length) := fun G H O o i => by
  obtain ⟨e', v, h1, h2, o1⟩ := o.one (io_of hio)
  cases h1
  cases h2
  obtain ⟨a', us, h3, hl, r⟩ := o1.tup
  cases h3
  refine ⟨fun z hz => ?_, fun h => ?_⟩
  · obtain ⟨hi, hz⟩ := rev_at hz
    obtain ⟨w, hw, rw'⟩ := r.get hz
    refine ⟨⟨hi, us, w, hl.sqt, hw⟩, fun x H' ⟨h4, h5⟩ => ?_⟩
    subst h4
    have := h5 us hl.sqt
    rw [hw] at this
    cases this
    exact ⟨.inl rfl, .of rw'⟩
  · rw [List.length_reverse] at h
    exact Nat.le_of_eq h.symm
theorem enumV_at : ∀ {xs : List Val} {k : Int} {i : Nat} {z : Val}, (enumV k xs)[i]? = some z → ∃ x, xs[i]? = some x ∧ z = .tup [.int (k + i), x]
  | [], k, i, z, h => by simp [enumV] at h
  | x :: xs, k, 0, z, h => by
    simp [enumV] at h
    exact ⟨x, rfl, by rw [← h]; simp⟩
  | x :: xs, k, i + 1, z, h => by
    obtain ⟨y, h1, h2⟩ := enumV_at (xs := xs) (k := k + 1) (i := i) (by simpa [enumV] using h)
    refine ⟨y, by simpa using h1, ?_⟩
    rw [h2]
    congr 3
    omega
theorem enumV_len : ∀ (xs : List Val) (k : Int), (enumV k xs).length = xs.length
  | [], _ => rfl
  | x :: xs, k => by unfold enumV; rw [List.length_cons, enumV_len xs, List.length_cons]
theorem wk_enum {is : List Nat} (hio : isIo e = false) (hu : ud ks e ≤ 1) : Wk K ks σ (.tup is) [e] [.lst zs] [.ref a] (enumV 0 zs) (Ite K a) := fun G H O o i => by
  obtain ⟨e', v, h1, h2, o1⟩ := o.one (io_of hio)
  cases h1
  cases h2
  obtain ⟨a', us, h3, hl, r⟩ := o1.lst hu
  cases h3
  refine ⟨fun z hz => ?_, fun h => ⟨us, SqL.of hl, by rw [r.length]; rw [enumV_len] at h; omega⟩⟩
  obtain ⟨y, hy, rfl⟩ := enumV_at hz
  obtain ⟨w, hw, rw'⟩ := r.get hy
  refine ⟨⟨us, w, SqL.of hl, hw⟩, fun x H' ⟨T, x', h4, h5, h6, h7⟩ => ?_⟩
  subst h4 h6
  have := h7 us (SqL.of hl)
  rw [hw] at this
  cases this
  refine ⟨.inr ⟨T, _, h5, rfl⟩, fun ys e => ?_⟩
  cases e
  exact ⟨T, _, rfl, SqT.of upd_same, VRs.cons (by rw [Int.zero_add]; rfl) (VRs.cons (rw'.new h5) VRs.nil)⟩
theorem zipV_at : ∀ {xs ys : List Val} {i : Nat} {z : Val}, (zipV xs ys)[i]? = some z → ∃ x y, xs[i]? = some x ∧ ys[i]? = some y ∧ z = .tup [x, y]
  | [], _, i, z, h => by simp [zipV] at h
  | _ :: _, [], i, z, h => by simp [zipV] at h
  | x :: xs, y :: ys, 0, z, h => by
    simp [zipV] at h
    exact ⟨x, y, rfl, rfl, h.symm⟩
  | x :: xs, y :: ys, i + 1, z, h => by
    obtain ⟨x', y', h1, h2, h3⟩ := zipV_at (xs := xs) (ys := ys) (i := i) (by simpa [zipV] using h)
    exact ⟨x', y', by simpa using h1, by simpa using h2, h3⟩
theorem zipV_len : ∀ (xs ys : List Val), (zipV xs ys).length = min xs.length ys.length
  | [], _ => by simp [zipV]
  | _ :: _, [] => by simp [zipV]
  | x :: xs, y :: ys => by unfold zipV; simp only [List.length_cons]; rw [zipV_len xs ys]; omega
theorem wk_zipL {is : List Nat} (hn : noIos [e, f] = true) (hu : ud ks e ≤ 1) (hu2 : ud ks f ≤ 1) : Wk K ks σ (.tup is) [e, f] [.lst xs, .lst ys] [.ref a, .ref b] (zipV xs ys) (Itz K a b) := fun G H O o i => by
  obtain ⟨e', f', v, w, h1, h2, o1, o2⟩ := o.two hn
  cases h1
  cases h2
  obtain ⟨a', us, h3, hl, r⟩ := o1.lst hu
  cases h3
  obtain ⟨b', ws, h3, hl2, r2⟩ := o2.lst hu2
  cases h3
  refine ⟨fun z hz => ?_, fun h => ⟨us, ws, SqL.of hl, SqL.of hl2, by rw [r.length, r2.length]; rw [zipV_len] at h; omega⟩⟩
  obtain ⟨x, y, hx, hy, rfl⟩ := zipV_at hz
  obtain ⟨v, hv, rv⟩ := r.get hx
  obtain ⟨w, hw, rw'⟩ := r2.get hy
  refine ⟨⟨us, ws, v, w, SqL.of hl, SqL.of hl2, hv, hw⟩, fun x0 H' ⟨T, x', y', h4, h5, h6, h7, h8⟩ => ?_⟩
  subst h4 h6
  have := h7 us (SqL.of hl)
  rw [hv] at this
  cases this
  have := h8 ws (SqL.of hl2)
  rw [hw] at this
  cases this
  refine ⟨.inr ⟨T, _, h5, rfl⟩, fun ys e => ?_⟩
  cases e
  exact ⟨T, _, rfl, SqT.of upd_same, VRs.cons (rv.new h5) (VRs.cons (rw'.new h5) VRs.nil)⟩
theorem wk_zipT {is : List Nat} (hn : noIos [e, f] = true) : Wk K ks σ (.tup is) [e, f] [.tup xs, .tup ys] [.ref a, .ref b] (zipV xs ys) (RZ.ItzT K a b) := fun G H O o i => by
  obtain ⟨e', f', v, w, h1, h2, o1, o2⟩ := o.two hn
  cases h1
  cases h2
  obtain ⟨a', us, h3, hl, r⟩ := o1.tup
  cases h3
  obtain ⟨b', ws, h3, hl2, r2⟩ := o2.tup
  cases h3
  refine ⟨fun z hz => ?_, fun h => ⟨us, ws, hl.sqt, hl2.sqt, by rw [r.length, r2.length]; rw [zipV_len] at h; omega⟩⟩
  obtain ⟨x, y, hx, hy, rfl⟩ := zipV_at hz
  obtain ⟨v, hv, rv⟩ := r.get hx
  obtain ⟨w, hw, rw'⟩ := r2.get hy
  refine ⟨⟨us, ws, v, w, hl.sqt, hl2.sqt, hv, hw⟩, fun x0 H' ⟨T, x', y', h4, h5, h6, h7, h8⟩ => ?_⟩
  subst h4 h6
  have := h7 us hl.sqt
  rw [hv] at this
  cases this
  have := h8 ws hl2.sqt
  rw [hw] at this
  cases this
  refine ⟨.inr ⟨T, _, h5, rfl⟩, fun ys e => ?_⟩
  cases e
  exact ⟨T, _, rfl, SqT.of upd_same, VRs.cons (rv.new h5) (VRs.cons (rw'.new h5) VRs.nil)⟩
theorem wk_zipM {is : List Nat} (hn : noIos [e, f] = true) (hu : ud ks e ≤ 1) : Wk K ks σ (.tup is) [e, f] [.lst xs, .tup ys] [.ref a, .ref b] (zipV xs ys) (RZ.ItzM K a b) := fun G H O o i => by
  obtain ⟨e', f', v, w, h1, h2, o1, o2⟩ := o.two hn
  cases h1
  cases h2
  obtain ⟨a', us, h3, hl, r⟩ := o1.lst hu
  cases h3
  obtain ⟨b', ws, h3, hl2, r2⟩ := o2.tup
  cases h3
  refine ⟨fun z hz => ?_, fun h => ⟨us, ws, SqL.of hl, hl2.sqt, by rw [r.length, r2.length]; rw [zipV_len] at h; omega⟩⟩
  obtain ⟨x, y, hx, hy, rfl⟩ := zipV_at hz
  obtain ⟨v, hv, rv⟩ := r.get hx
  obtain ⟨w, hw, rw'⟩ := r2.get hy
  refine ⟨⟨us, ws, v, w, SqL.of hl, hl2.sqt, hv, hw⟩, fun x0 H' ⟨T, x', y', h4, h5, h6, h7, h8⟩ => ?_⟩
  subst h4 h6
  have := h7 us (SqL.of hl)
  rw [hv] at this
  cases this
  have := h8 ws hl2.sqt
  rw [hw] at this
  cases this
  refine ⟨.inr ⟨T, _, h5, rfl⟩, fun ys e => ?_⟩
  cases e
  exact ⟨T, _, rfl, SqT.of upd_same, VRs.cons (rv.new h5) (VRs.cons (rw'.new h5) VRs.nil)⟩
end

section
variable {T : Tab} {N : List Str} {k : Nat} {X : Cx} {P : Par} {s : Sx} {ks : List Nat}
theorem _root_.L2.PI.imp {X : Cx} {tg iter : Expr} {w w' : TI} (h : PI X tg iter w) (i : ∀ σ H R, w' σ H R → w σ H R) : PI X tg iter w' := ⟨fun pins s σ H R I q => h.run pins s σ H R I (i σ H R q)⟩
theorem rangeV_some {xs zs : List Val} (h : rangeV xs = some zs) : (∃ n : Int, xs = [.int n] ∧ rng n = true ∧ zs = upFrom 0 n.toNat) ∨ (∃ a b : Int, xs = [.int a, .int b] ∧ rng a = true ∧ rng b = true ∧ zs = upFrom a (b - a).toNat) ∨
    ∃ a b c : Int, xs = [.int a, .int b, .int c] ∧ c ≠ 0 ∧ c.natAbs < 1073741824 ∧ Builtin.Range.small a b c = true ∧ zs = rangeC a c (Builtin.Range.rangeSize a b c).toNat := by
  unfold rangeV at h
  split at h
  · split at h
    · rename_i q
      cases h
      exact .inl ⟨_, rfl, (Bool.and_eq_true_iff.mp q).1, rfl⟩
    · cases h
  · split at h
    · rename_i q
      cases h
      simp only [Bool.and_eq_true] at q
      exact .inr (.inl ⟨_, _, rfl, q.1.1, q.1.2, rfl⟩)
    · cases h
  · split at h
    · rename_i q
      cases h
      simp only [Bool.and_eq_true, decide_eq_true_eq] at q
      exact .inr (.inr ⟨_, _, _, rfl, q.1.1.1, q.1.1.2, q.1.2, rfl⟩)
    · cases h
  · cases h
theorem rng_bd {i : Int} (h : rng i = true) : -(2 ^ 62) ≤ i ∧ i < 2 ^ 62 := by
  unfold rng at h
  simp only [Bool.and_eq_true, decide_eq_true_eq] at h
  omega
theorem onL1_some {f : Val → Option (List Val)} {xs zs : List Val} (h : onL1 f xs = some zs) : ∃ x, xs = [x] ∧ f x = some zs := by
  cases xs with
  | nil => cases h
  | cons x r =>
    cases r with
    | nil => exact ⟨x, rfl, h⟩
    | cons _ _ => cases h
theorem walkV_some {x : Val} {zs : List Val} (h : walkV x = some zs) : x = .lst zs ∨ x = .tup zs ∨ (∃ s : Str, x = .str s ∧ zs = s.cps.toList.map fun c => .str ⟨#[c]⟩) ∨ ∃ vs, x = .dct zs vs := by
  cases x <;> first | (have h' : (none : Option (List Val)) = some zs := h; cases h'; done) | skip
  · cases h; exact .inr (.inr (.inl ⟨_, rfl, rfl⟩))
  · cases h; exact .inr (.inl rfl)
  · cases h; exact .inl rfl
  · cases h; exact .inr (.inr (.inr ⟨_, rfl⟩))
theorem isIo_wf {e : E} (h : wfE T ks e = true) : isIo e = false := by
  cases e <;> first | rfl | (unfold wfE at h; cases h)
theorem starEach1 {a : Expr} {env : PySem.Env} (h : noStar a = true) : starEach [a] env = [(false, eval a env)] := noStar_each h
/-- arguments, then what is made of them -/
theorem rdI_A {t : Tgt} {kk : Src} {srcs : List E} {σ : L2.St} {H : Hp} {R : It → Hp → Prop} {Q : List V → Hp → Prop} (h : rdI P ks t kk srcs σ H R)
    (hq : ∀ G O H' env' xs vs zs, Stt P.K H' G ks env' σ O → Oprs P.K H' G ks O σ srcs xs vs → items kk xs = some zs → (∀ J, Wk P.K ks σ t srcs xs vs zs J → R J H') → Q vs H') : rdA P ks srcs σ H Q := by
  obtain ⟨G, O, env, S, g⟩ := h
  exact ⟨G, O, env, S, g.imp (fun _ h => h) fun xs e H' O' p ⟨zs, hz, hJ⟩ vs o => hq G O' H' e xs vs zs p.st o hz (hJ vs o)⟩
/-- the checked call -/
structure SrcC (T : Tab) (N : List Str) (X : Cx) (s : Sx) (kk : Src) (srcs : List E) (tg iter : Expr) (x : Str) (p : Pos) (xs : List Expr) (pos : Pos) : Prop where
  e : iter = .Call (.Name x p) xs [] pos
  nm : x = srcName kk
  gl : Gl X x
  mg : X.mg x = none
  ch : chkL T N srcs s xs = true
  l1 : 1 ≤ xs.length
  l3 : xs.length ≤ 3
  en : kk = .enum → xs.length = 1 ∧ ∃ es k p, tg = .Tuple es k p
  zi : kk = .zip → xs.length = 2 ∧ ∃ es k p, tg = .Tuple es k p
  re : kk = .rev → xs.length = 1
  no : kk ≠ .items ∧ kk ≠ .values
theorem src_call {kk : Src} {srcs : List E} {tg iter : Expr} (cx : Ctx T N k X P s) (hc : chkI T kk (chkL T N srcs s) s tg iter = true) (hk : kk ≠ .plain) : ∃ x p xs pos, SrcC T N X s kk srcs tg iter x p xs pos := by
  unfold chkI at hc
  split at hc
  · exact absurd rfl hk
  · split at hc
    · rename_i x p xs pos
      simp only [Bool.and_eq_true] at hc
      obtain ⟨⟨⟨⟨⟨h1, h2⟩, h3⟩, h4⟩, h5⟩, h6⟩ := hc
      obtain ⟨b1, b2, _⟩ := blt_of cx h2
      refine ⟨x, p, xs, pos, rfl, eq_of_beq h1, b1, b2, h3, Nat.le_of_ble_eq_true h4, Nat.le_of_ble_eq_true h5, fun hk => ?_, fun hk => ?_, fun hk => ?_, fun hk => ?_, fun hk => ?_⟩
      · subst hk
        cases tg <;> first | (cases h6; done) | exact ⟨Nat.eq_of_beq_eq_true h6, _, _, _, rfl⟩
      · subst hk
        cases tg <;> first | (cases h6; done) | exact ⟨Nat.eq_of_beq_eq_true h6, _, _, _, rfl⟩
      · subst hk
        exact Nat.eq_of_beq_eq_true h6
      · subst hk
        cases h6
      · subst hk
        cases h6
    · cases hc
theorem chk_head {srcs : List E} {a : Expr} {r : List Expr} {env : PySem.Env} (hc : chkL T N srcs s (a :: r) = true) : noStar a = true ∧ ∀ pos : Pos, (backTo pos (starEach r env)).any (·.1) = false := by
  cases srcs with
  | nil => unfold chkL at hc; cases hc
  | cons _ _ => unfold chkL at hc; simp only [Bool.and_eq_true] at hc; exact ⟨hc.1.1, fun pos => (chkL_plain hc.2).1⟩
theorem tg_pair {s2 : Sx} {t : Tgt} {es : List Expr} {k : Nat} {p : Pos} (ht : chkT N s2 (.Tuple es k p) t = true) : ∃ is, t = .tup is := by
  cases t with
  | one i => unfold chkT at ht; cases ht
  | tup is => exact ⟨is, rfl⟩
variable {t : Tgt} {srcs : List E} {tg iter : Expr} {s2 : Sx}
theorem src_plain (cx : Ctx T N k X P s) (il : ∀ a, a ∈ srcs → Snd T N k a) (hc : chkL T N srcs s [iter] = true) (w1 : wfL T ks srcs = true) (w2 : flatL ks srcs = true) : PI X tg iter (rdI P ks t .plain srcs) := by
  match srcs, hc, il, w1, w2 with
  | [m], hc, il, w1, w2 =>
    unfold chkL at hc
    simp only [Bool.and_eq_true] at hc
    have hw : wfE T ks m = true := by unfold wfL at w1; exact (Bool.and_eq_true_iff.mp w1).1
    have hio := isIo_wf hw
    have hu := flat1 w2
    refine (pi_any (il m List.mem_cons_self X P s ks iter cx hc.1.2 hw).pe).imp fun σ H R ⟨G, O, env, S, g⟩ => ?_
    refine bindP (M := mutsL [m]) S (fun _ h => app_l h) g fun z env1 v H1 O1 p1 o1 g1 => ?_
    obtain ⟨zs, hz, hJ⟩ := g1.ok p1.st
    have hJ := fun v o => hJ [v] ⟨z, [], v, [], rfl, rfl, by rw [isIoOf_none hio]; exact o, rfl, rfl⟩
    have hz : walkV z = some zs := hz
    rw [cx.K]
    rcases walkV_some hz with rfl | rfl | ⟨s, rfl, rfl⟩ | ⟨vs, rfl⟩
    · obtain ⟨a, us, rfl, hl, r⟩ := o1.lst hu
      exact .inl ⟨a, us, rfl, SqL.of hl, hJ _ o1 _ (wk_list hio hu)⟩
    · obtain ⟨a, us, rfl, hl, r⟩ := o1.tup
      exact .inr (.inl ⟨a, us, rfl, hl.sqt, hJ _ o1 _ (wk_tup hio)⟩)
    · have e := o1.str.1
      subst e
      exact .inr (.inr ⟨s, rfl, hJ _ o1 _ (wk_str hio)⟩)
    · exact o1.dct.elim
  | [], hc, _, _, _ => unfold chkL at hc; cases hc
  | _ :: _ :: _, hc, _, _, _ => unfold chkL chkL at hc; simp at hc
theorem src_range1 {a : Expr} {p pos : Pos} (hg : Gl X "range") (hm : X.mg "range" = none) (pa : PA X [a] (rdA P ks srcs)) (ns : noStar a = true) (hlen : srcs.length = 1) (noio : noIos srcs = true) : PI X tg (.Call (.Name "range" p) [a] [] pos) (rdI P ks t .range srcs) := by
  refine (pi_range1 hg hm pa (starEach1 ns)).imp fun σ H R h => rdI_A h fun G O H' env' ys vs zs S o hz hJ => ?_
  have ol := o.length
  rcases rangeV_some hz with ⟨n, rfl, hr, rfl⟩ | ⟨_, _, rfl, _⟩ | ⟨_, _, _, rfl, _⟩
  · obtain ⟨e, v, rfl, rfl, o1⟩ := o.one noio
    have e1 := o1.int
    subst e1
    exact ⟨n, rfl, (rng_bd hr).1, (rng_bd hr).2, hJ _ wk_range⟩
  · simp at ol; omega
  · simp at ol; omega
theorem src_range2 {a b : Expr} {p pos : Pos} (hg : Gl X "range") (hm : X.mg "range" = none) (pa : PA X [a, b] (rdA P ks srcs)) (ns : noStar a = true) (ns2 : noStar b = true) (hlen : srcs.length = 2) (noio : noIos srcs = true) : PI X tg (.Call (.Name "range" p) [a, b] [] pos) (rdI P ks t .range srcs) := by
  refine (pi_range2 hg hm pa (by rw [noStar_each ns, noStar_each ns2]; rfl) (starEach1 ns2)).imp fun σ H R h => rdI_A h fun G O H' env' ys vs zs S o hz hJ => ?_
  have ol := o.length
  rcases rangeV_some hz with ⟨_, rfl, _⟩ | ⟨i, j, rfl, hr, hr2, rfl⟩ | ⟨_, _, _, rfl, _⟩
  · simp at ol; omega
  · obtain ⟨e, f, v, w, rfl, rfl, o1, o2⟩ := o.two noio
    have e1 := o1.int
    have e2 := o2.int
    subst e1 e2
    exact ⟨i, j, rfl, ⟨(rng_bd hr).1, (rng_bd hr).2, (rng_bd hr2).1, (rng_bd hr2).2⟩, hJ _ wk_range⟩
  · simp at ol; omega
theorem Oprs.three {K : PySem.W.Frag} {H : Hp} {G : Addr → Prop} {O : Own} {σ : L2.St} {es : List E} {x y z : Val} {vs : List V} (hn : noIos es = true) (h : Oprs K H G ks O σ es [x, y, z] vs) :
    ∃ e f g u v w, es = [e, f, g] ∧ vs = [u, v, w] ∧ Opr K H G O (ud ks e) (root e) x u ∧ Opr K H G O (ud ks f) (root f) y v ∧ Opr K H G O (ud ks g) (root g) z w := by
  cases es with
  | nil => cases h.1
  | cons e er =>
    obtain ⟨x', xr, v, vr, h1, h2, h3, t⟩ := h
    cases h1
    unfold noIos at hn
    obtain ⟨hn1, hn2⟩ := Bool.and_eq_true_iff.mp hn
    rw [isIoOf_none (by simpa using hn1)] at h3
    obtain ⟨f, g, w, w2, e1, e2, h4, h5⟩ := Oprs.two hn2 t
    subst e1 e2
    exact ⟨e, f, g, v, w, w2, rfl, h2, h3, h4, h5⟩
theorem src_range3 {a b c : Expr} {p pos : Pos} (hg : Gl X "range") (hm : X.mg "range" = none) (pa : PA X [a, b, c] (rdA P ks srcs)) (ns : noStar a = true) (ns2 : (backTo pos (starEach [b, c] X.env)).any (·.1) = false) (hlen : srcs.length = 3) (noio : noIos srcs = true) : PI X tg (.Call (.Name "range" p) [a, b, c] [] pos) (rdI P ks t .range srcs) := by
  refine (pi_range3 hg hm pa (noStar_each ns) ns2).imp fun σ H R h => rdI_A h fun G O H' env' ys vs zs S o hz hJ => ?_
  have ol := o.length
  rcases rangeV_some hz with ⟨_, rfl, _⟩ | ⟨_, _, rfl, _⟩ | ⟨i, j, c', rfl, q1, q2, q3, rfl⟩
  · simp at ol; omega
  · simp at ol; omega
  · obtain ⟨e, f, g, u, v, w, rfl, rfl, o1, o2, o3⟩ := o.three noio
    have e1 := o1.int
    have e2 := o2.int
    have e3 := o3.int
    subst e1 e2 e3
    exact ⟨i, j, c', _, rfl, ⟨q1, q2, q3, rangeSize_toNat _ _ _⟩, hJ _ wk_rangeC⟩
theorem src_enum {is : List Nat} {a : Expr} {es : List Expr} {kk : Nat} {tp p pos : Pos} (cx : Ctx T N k X P s) (hg : Gl X "enumerate") (hm : X.mg "enumerate" = none) (pa : PA X [a] (rdA P ks srcs)) (ns : noStar a = true) (w2 : flatL ks srcs = true) (noio : noIos srcs = true) : PI X (.Tuple es kk tp) (.Call (.Name "enumerate" p) [a] [] pos) (rdI P ks (.tup is) .enum srcs) := by
  refine (pi_enum hg hm pa (starEach1 ns)).imp fun σ H R h => rdI_A h fun G O H' env' ys vs zs S o hz hJ => ?_
  obtain ⟨x, rfl, hz⟩ := onL1_some hz
  obtain ⟨us, hx, rfl⟩ := omap_eq hz
  have hx := lstOf_some hx
  subst hx
  obtain ⟨e, v, rfl, rfl, o1⟩ := o.one noio
  obtain ⟨b, ws, rfl, hl, r⟩ := o1.lst (flat1 w2)
  have hio : isIo e = false := by
    unfold noIos at noio
    simpa using (Bool.and_eq_true_iff.mp noio).1
  exact ⟨b, ws, rfl, by rw [cx.K]; exact SqL.of hl, by rw [cx.K]; exact hJ _ (wk_enum hio (flat1 w2))⟩
theorem src_zip {is : List Nat} {a b : Expr} {es : List Expr} {kk : Nat} {tp p pos : Pos} (cx : Ctx T N k X P s) (hg : Gl X "zip") (hm : X.mg "zip" = none) (pa : PA X [a, b] (rdA P ks srcs)) (ns : noStar a = true) (ns2 : (backTo pos (starEach [b] X.env)).any (·.1) = false) (w2 : flatL ks srcs = true) (noio : noIos srcs = true) : PI X (.Tuple es kk tp) (.Call (.Name "zip" p) [a, b] [] pos) (rdI P ks (.tup is) .zip srcs) := by
  have fl2 : ∀ e f : E, srcs = [e, f] → ud ks e ≤ 1 ∧ ud ks f ≤ 1 := fun e f h => by
    subst h
    unfold flatL flatL flatE at w2
    simp only [Bool.and_eq_true] at w2
    exact ⟨Nat.le_of_ble_eq_true w2.1, Nat.le_of_ble_eq_true w2.2.1⟩
  refine (RZ.pi_zipM hg hm pa (noStar_each ns) ns2).imp fun σ H R h => rdI_A h fun G O H' env' ys vs zs S o hz hJ => ?_
  have hz : zipVs ys = some zs := hz
  unfold zipVs at hz
  split at hz
  · cases hz
    obtain ⟨e, f, v, w, rfl, rfl, o1, o2⟩ := o.two noio
    obtain ⟨u1, u2⟩ := fl2 _ _ rfl
    obtain ⟨a1, us1, rfl, hl1, r1⟩ := o1.lst u1
    obtain ⟨a2, us2, rfl, hl2, r2⟩ := o2.lst u2
    exact ⟨a1, a2, us1, us2, rfl, .inl ⟨SqL.of hl1, SqL.of hl2, by rw [cx.K]; exact hJ _ (wk_zipL noio u1 u2)⟩⟩
  · cases hz
    obtain ⟨e, f, v, w, rfl, rfl, o1, o2⟩ := o.two noio
    obtain ⟨a1, us1, rfl, hl1, r1⟩ := o1.tup
    obtain ⟨a2, us2, rfl, hl2, r2⟩ := o2.tup
    exact ⟨a1, a2, us1, us2, rfl, .inr (.inl ⟨by rw [cx.K]; exact hl1.sqt, by rw [cx.K]; exact hl2.sqt, by rw [cx.K]; exact hJ _ (wk_zipT noio)⟩)⟩
  · cases hz
    obtain ⟨e, f, v, w, rfl, rfl, o1, o2⟩ := o.two noio
    obtain ⟨u1, u2⟩ := fl2 _ _ rfl
    obtain ⟨a1, us1, rfl, hl1, r1⟩ := o1.lst u1
    obtain ⟨a2, us2, rfl, hl2, r2⟩ := o2.tup
    exact ⟨a1, a2, us1, us2, rfl, .inr (.inr ⟨SqL.of hl1, by rw [cx.K]; exact hl2.sqt, by rw [cx.K]; exact hJ _ (wk_zipM noio u1)⟩)⟩
  · cases hz
theorem src_rev {a : Expr} {m : E} {p pos : Pos} (cx : Ctx T N k X P s) (hg : Gl X "reversed") (hm : X.mg "reversed" = none) (pa : PE X a (rdP P ks m)) (ns : noStar a = true) (hu : ud ks m ≤ 1) (hio : isIo m = false) : PI X tg (.Call (.Name "reversed" p) [a] [] pos) (rdI P ks t .rev [m]) := by
  refine (RT.pi_revA hg hm pa (noStar_each ns)).imp fun σ H R ⟨G, O, env, S, g⟩ => ?_
  refine bindP (M := mutsL [m]) S (fun _ h => app_l h) g fun z env1 v H1 O1 p1 o1 g1 => ?_
  obtain ⟨zs, hz, hJ⟩ := g1.ok p1.st
  have hJ := fun v o => hJ [v] ⟨z, [], v, [], rfl, rfl, by rw [isIoOf_none hio]; exact o, rfl, rfl⟩
  have hz : omap List.reverse (seqOf z) = some zs := hz
  obtain ⟨us, hx, rfl⟩ := omap_eq hz
  rcases seqOf_some hx with rfl | rfl
  · obtain ⟨b, ws, rfl, hl, r⟩ := o1.lst hu
    exact ⟨b, ws, rfl, .inl ⟨SqL.of hl, by rw [cx.K, r.length]; exact hJ _ o1 _ (wk_revL hio hu)⟩⟩
  · obtain ⟨b, ws, rfl, hl, r⟩ := o1.tup
    exact ⟨b, ws, rfl, .inr ⟨by rw [cx.K]; exact hl.sqt, by rw [cx.K, r.length]; exact hJ _ o1 _ (wk_revT hio)⟩⟩
theorem pi_src {kk : Src} (cx : Ctx T N k X P s) (il : ∀ a, a ∈ srcs → Snd T N k a) (hc : chkI T kk (chkL T N srcs s) s tg iter = true) (ht : chkT N s2 tg t = true)
    (w1 : wfL T ks srcs = true) (w2 : flatL ks srcs = true) (w3 : seqL ks srcs = true) : PI X tg iter (rdI P ks t kk srcs) := by
  have noio := wfL_noIos w1
  by_cases hk : kk = .plain
  · subst hk
    exact src_plain cx il hc w1 w2
  · obtain ⟨x, p, xs, pos, ⟨e, nm, gl, mg, ch, l1, l3, en, zi, re, no⟩⟩ := src_call cx hc hk
    subst e
    have pa := sndL_of il X P s ks xs cx ch (wfL_wfA w1) w3
    have hlen := chkL_len ch
    cases kk with
    | plain => exact absurd rfl hk
    | items => exact absurd rfl no.1
    | values => exact absurd rfl no.2
    | range =>
      have nm : x = "range" := nm
      subst nm
      match xs, pa, ch, hlen, l1, l3 with
      | [a], pa, ch, hlen, _, _ => exact src_range1 gl mg pa (chk_head (env := X.env) ch).1 hlen.symm noio
      | [a, b], pa, ch, hlen, _, _ =>
        have ns2 : noStar b = true := by
          match srcs, ch with
          | _ :: r, ch =>
            unfold chkL at ch
            simp only [Bool.and_eq_true] at ch
            exact (chk_head (env := X.env) ch.2).1
        exact src_range2 gl mg pa (chk_head (env := X.env) ch).1 ns2 hlen.symm noio
      | [a, b, c], pa, ch, hlen, _, _ => exact src_range3 gl mg pa (chk_head (env := X.env) ch).1 ((chk_head ch).2 _) hlen.symm noio
    | enum =>
      have nm : x = "enumerate" := nm
      subst nm
      obtain ⟨q1, es, k', p', rfl⟩ := en rfl
      obtain ⟨is, rfl⟩ := tg_pair ht
      match xs, pa, ch, q1 with
      | [a], pa, ch, _ => exact src_enum cx gl mg pa (chk_head (env := X.env) ch).1 w2 noio
    | zip =>
      have nm : x = "zip" := nm
      subst nm
      obtain ⟨q1, es, k', p', rfl⟩ := zi rfl
      obtain ⟨is, rfl⟩ := tg_pair ht
      match xs, pa, ch, q1 with
      | [a, b], pa, ch, _ => exact src_zip cx gl mg pa (chk_head (env := X.env) ch).1 ((chk_head ch).2 _) w2 noio
    | rev =>
      have nm : x = "reversed" := nm
      subst nm
      have q1 := re rfl
      match xs, ch, q1, hlen with
      | [a], ch, _, hlen =>
        match srcs, il, ch, w1, w2, hlen with
        | [m], il, ch, w1, w2, _ =>
          have ns := (chk_head (env := X.env) ch).1
          unfold chkL at ch
          simp only [Bool.and_eq_true] at ch
          have hw : wfE T ks m = true := by unfold wfL at w1; exact (Bool.and_eq_true_iff.mp w1).1
          exact src_rev cx gl mg (il m List.mem_cons_self X P s ks a cx ch.1.2 hw).pe ns (flat1 w2) (isIo_wf hw)
end
end Mp
set_option Elab.async false
set_option linter.all false
set_option maxRecDepth 10000
/-! # Mp: targets; comprehensions. -/
namespace Mp
open PySem PySem.Spec PyProof.Rows L2

theorem gt_ge : ∀ {e : Env} {i : Nat}, e.length ≤ i → gt e i = .undef := fun {e i} h => by
  by_cases z : gt e i = .undef
  · exact z
  · exact absurd (gt_lt z) (by omega)
theorem gt_kills : ∀ (is : List Nat) (e : Env) (j : Nat), gt (kills is e) j = if j ∈ is then .undef else gt e j
  | [], e, j => by simp [kills]
  | i :: is, e, j => by
    unfold kills
    rw [gt_kills is, gt_st]
    by_cases h : j ∈ is
    · simp [h]
    · rw [if_neg h]
      by_cases h2 : j = i
      · subst h2
        rw [if_pos List.mem_cons_self]
        by_cases h3 : j < e.length
        · rw [if_pos ⟨rfl, h3⟩]
        · rw [if_neg (fun z => h3 z.2), gt_ge (by omega)]
      · rw [if_neg (fun z => h2 z.1), if_neg (by simp [h, h2])]
theorem kills_len : ∀ (is : List Nat) (e : Env), (kills is e).length = e.length
  | [], _ => rfl
  | i :: is, e => by unfold kills; rw [kills_len is, st_len]
theorem rst_len : ∀ (o : Env) (is : List Nat) (e : Env), (rst o is e).length = e.length
  | _, [], _ => rfl
  | o, i :: is, e => by unfold rst; rw [rst_len o is, st_len]
theorem gt_rst : ∀ (o : Env) (is : List Nat) (e : Env) (j : Nat), gt (rst o is e) j = if j ∈ is ∧ j < e.length then gt o j else gt e j
  | o, [], e, j => by simp [rst]
  | o, i :: is, e, j => by
    unfold rst
    rw [gt_rst o is, gt_st, st_len]
    by_cases h : j ∈ is ∧ j < e.length
    · rw [if_pos h, if_pos ⟨List.mem_cons_of_mem _ h.1, h.2⟩]
    · rw [if_neg h]
      by_cases h2 : j = i ∧ i < e.length
      · rw [if_pos h2, if_pos ⟨by rw [h2.1]; exact List.mem_cons_self, by rw [h2.1]; exact h2.2⟩, h2.1]
      · rw [if_neg h2, if_neg]
        rintro ⟨h3, h4⟩
        rcases List.mem_cons.mp h3 with z | z
        · exact h2 ⟨z, by rw [← z]; exact h4⟩
        · exact h ⟨z, h4⟩
theorem wipe_at {σ : L2.St} {j : Nat} : ∀ {vs : List Nat}, j ∉ vs → (wipe σ vs)[j]? = σ[j]?
  | [], _ => rfl
  | v :: vs, h => by
    unfold wipe
    rw [List.getElem?_set_ne (fun e => h (by rw [e]; exact List.mem_cons_self))]
    exact wipe_at fun z => h (List.mem_cons_of_mem _ z)
theorem wipe_in {σ : L2.St} {j : Nat} {x : V} : ∀ {vs : List Nat}, j ∈ vs → ¬ (wipe σ vs)[j]? = some (some x) := fun {vs} h z => (wipe_some z).2 h
theorem list_ext_wipe {σ σ' : L2.St} {vs : List Nat} (hl : σ.length = σ'.length) (h : ∀ j, j ∉ vs → σ[j]? = σ'[j]?) : wipe σ vs = wipe σ' vs := by
  apply List.ext_getElem?
  intro j
  by_cases hj : j ∈ vs
  · have e : ∀ τ : L2.St, (wipe τ vs)[j]? = if j < τ.length then some none else none := fun τ => by
      have hlen := wipe_length τ vs
      by_cases hlt : j < τ.length
      · rw [if_pos hlt]
        have q : (wipe τ vs)[j]? = some ((wipe τ vs)[j]'(by omega)) := List.getElem?_eq_getElem (by omega)
        cases hv : (wipe τ vs)[j]'(by omega) with
        | none => rw [q, hv]
        | some x => exact absurd (by rw [q, hv]) (wipe_in (x := x) hj)
      · rw [if_neg hlt]
        exact List.getElem?_eq_none (by omega)
    rw [e, e, hl]
  · rw [wipe_at hj, wipe_at hj, h j hj]
theorem wipe_wipe {σ : L2.St} {vs : List Nat} : wipe (wipe σ vs) vs = wipe σ vs := list_ext_wipe (wipe_length σ vs) fun j hj => wipe_at hj

section
variable {K : PySem.W.Frag} {H H' : Hp} {G : Addr → Prop} {ks : List Nat} {O : Own} {env env' : Env} {σ : L2.St}
theorem zero_own (S : Stt K H G ks env σ O) {i : Nat} (h : kd ks i = 0) : O i = [] := by
  by_cases z : gt env i = .undef
  · exact S.emp i z
  · obtain ⟨v, _, q⟩ := S.slot i z
    rw [h] at q
    rcases q with ⟨e, _⟩ | ⟨_, _, e⟩
    · cases e
    · exact e
theorem zeros_at {ks : List Nat} : ∀ {is : List Nat} {i : Nat}, zeros ks is = true → i ∈ is → kd ks i = 0
  | [], _, _, h => by cases h
  | j :: is, i, h, hi => by
    unfold zeros at h
    simp only [Bool.and_eq_true] at h
    rcases List.mem_cons.mp hi with e | e
    · subst e
      exact Nat.eq_of_beq_eq_true h.1
    · exact zeros_at h.2 e
theorem VR.undef {A : Addr → Prop} {x : Val} {v : V} (h : VR K H A x v) : x ≠ .undef := fun z => by subst z; exact h
/-- a slot that owns nothing is bound -/
theorem Stt.bind (S : Stt K H G ks env σ O) {i : Nat} {z : Val} {x : V} (hk : kd ks i = 0) (h : VR K H (AA G O) z x) : Stt K H G ks (Mp.st env i z) (σ.set i (some x)) O := by
  refine ⟨fun j hj => ?_, fun j hj => ?_, S.nd, S.dj, S.own, S.fresh, by rw [st_len, List.length_set]; exact S.len⟩
  · rw [gt_st] at hj ⊢
    by_cases e : j = i ∧ i < env.length
    · obtain ⟨rfl, hl⟩ := e
      rw [if_pos ⟨rfl, hl⟩]
      have := S.len
      refine ⟨x, List.getElem?_set_self (by omega), .inr ⟨by rw [hk]; decide, ?_⟩⟩
      rw [hk]
      exact ⟨h, zero_own S hk⟩
    · rw [if_neg e] at hj ⊢
      obtain ⟨v, h1, h2⟩ := S.slot j hj
      have hl := gt_lt hj
      refine ⟨v, ?_, h2⟩
      rw [List.getElem?_set_ne (fun q => e ⟨q.symm, by rw [q]; exact hl⟩)]
      exact h1
  · rw [gt_st] at hj
    by_cases e : j = i ∧ i < env.length
    · rw [if_pos e] at hj
      exact absurd hj h.undef
    · rw [if_neg e] at hj
      exact S.emp j hj
/-- .. forgotten -/
theorem Stt.kill (S : Stt K H G ks env σ O) {i : Nat} (hk : kd ks i = 0) : Stt K H G ks (Mp.st env i .undef) σ O := by
  refine ⟨fun j hj => ?_, fun j hj => ?_, S.nd, S.dj, S.own, S.fresh, by rw [st_len]; exact S.len⟩
  · rw [gt_st] at hj ⊢
    by_cases e : j = i ∧ i < env.length
    · rw [if_pos e] at hj
      exact absurd rfl hj
    · rw [if_neg e] at hj ⊢
      exact S.slot j hj
  · by_cases e : j = i
    · rw [e]; exact zero_own S hk
    · rw [gt_st, if_neg (fun z => e z.1)] at hj
      exact S.emp j hj
/-- .. with their slots in the frame -/
theorem Stt.wipe (S : Stt K H G ks env σ O) {vs : List Nat} (hk : zeros ks vs = true) : Stt K H G ks (kills vs env) (L2.wipe σ vs) O := by
  refine ⟨fun j hj => ?_, fun j hj => ?_, S.nd, S.dj, S.own, S.fresh, by rw [kills_len, wipe_length]; exact S.len⟩
  · rw [gt_kills] at hj ⊢
    by_cases e : j ∈ vs
    · rw [if_pos e] at hj
      exact absurd rfl hj
    · rw [if_neg e] at hj ⊢
      rw [wipe_at e]
      exact S.slot j hj
  · rw [gt_kills] at hj
    by_cases e : j ∈ vs
    · exact zero_own S (zeros_at hk e)
    · rw [if_neg e] at hj
      exact S.emp j hj

/-! ### targets -/
def setS : List Nat → List V → L2.St → L2.St
  | i :: is, v :: vs, σ => setS is vs (σ.set i (some v))
  | _, _, σ => σ
theorem setS_len : ∀ (is : List Nat) (vs : List V) (σ : L2.St), (setS is vs σ).length = σ.length
  | [], _, _ => rfl
  | _ :: _, [], _ => rfl
  | i :: is, v :: vs, σ => by unfold setS; rw [setS_len is, List.length_set]
theorem setS_at : ∀ (is : List Nat) (vs : List V) (σ : L2.St) (j : Nat), j ∉ is → (setS is vs σ)[j]? = σ[j]?
  | [], _, _, _, _ => rfl
  | _ :: _, [], _, _, _ => rfl
  | i :: is, v :: vs, σ, j, h => by
    unfold setS
    rw [setS_at is vs _ j (fun z => h (List.mem_cons_of_mem _ z)), List.getElem?_set_ne (fun e => h (by rw [e]; exact List.mem_cons_self))]
theorem Stt.binds : ∀ {is : List Nat} {ys : List Val} {vs : List V} {env env' : Env} {σ : L2.St}, Stt K H G ks env σ O → zeros ks is = true → VRs K H (AA G O) ys vs → puts is ys env = some env' → Stt K H G ks env' (setS is vs σ) O ∧ vs.length = is.length
  | [], [], vs, env, env', σ, S, _, r, h => by
    cases h
    cases (show vs = [] from r)
    exact ⟨S, rfl⟩
  | [], _ :: _, _, _, _, _, _, _, _, h => by cases h
  | _ :: _, [], _, _, _, _, _, _, _, h => by cases h
  | i :: is, y :: ys, vs, env, env', σ, S, hk, ⟨v, r, e, hv, t⟩, h => by
    subst e
    unfold zeros at hk
    simp only [Bool.and_eq_true] at hk
    have h : puts is ys (Mp.st env i y) = some env' := h
    obtain ⟨q1, q2⟩ := Stt.binds (S.bind (Nat.eq_of_beq_eq_true hk.1) hv) hk.2 t h
    exact ⟨q1, by simp [q2]⟩
def gSlots : List Nat → TGs
  | [] => gNil
  | i :: is => gCons (gName i) (gSlots is)
def rdG (K : PySem.W.Frag) : Tgt → TG
  | .one i => gName i
  | .tup is => gTup K is.length (gSlots is)
theorem gSlots_ok : ∀ {is : List Nat} {vs : List V} {σ : L2.St} {H : Hp} {Q : L2.St → Hp → Prop}, vs.length = is.length → Q (setS is vs σ) H → gSlots is vs σ H Q
  | [], vs, σ, H, Q, hl, q => by
    cases vs with
    | nil => exact ⟨rfl, q⟩
    | cons _ _ => cases hl
  | i :: is, vs, σ, H, Q, hl, q => by
    cases vs with
    | nil => cases hl
    | cons v vs => exact ⟨v, vs, rfl, gSlots_ok (by simpa using hl) q⟩
/-- a target is bound -/
theorem bindT_ok {t : Tgt} {z : Val} {x : V} {Q : L2.St → Hp → Prop} (S : Stt K H G ks env σ O) (hz : zeros ks t.slots = true) (h : IV K H (AA G O) t z x) (hb : bindT t z env = some env')
    (q : ∀ σ', Stt K H G ks env' σ' O → σ'.length = σ.length → (∀ j, j ∉ t.slots → σ'[j]? = σ[j]?) → Q σ' H) : rdG K t x σ H Q := by
  cases t with
  | one i =>
    cases hb
    unfold zeros at hz
    exact q _ (S.bind (Nat.eq_of_beq_eq_true (Bool.and_eq_true_iff.mp hz).1) h) (by rw [List.length_set]) fun j hj => by
      have hj : j ∉ [i] := hj
      rw [List.getElem?_set_ne (fun e => hj (by simp [e]))]
  | tup is =>
    cases z <;> first | (have hb' : (none : Option Env) = some env' := hb; cases hb'; done) | skip
    rename_i ys
    obtain ⟨a, vs, rfl, hT, r⟩ := h ys rfl
    obtain ⟨q1, q2⟩ := S.binds hz r hb
    exact ⟨a, vs, rfl, hT, q2, gSlots_ok q2 (q _ q1 (setS_len _ _ _) fun j hj => setS_at is vs σ j hj)⟩
end
section
variable {T : Tab} {N : List Str} {k : Nat} {X : Cx} {P : Par} {s : Sx} {ks : List Nat}
theorem pg_slot {i : Nat} {x : Str} {pos : Pos} (cx : Ctx T N k X P s) (h1 : nameAt N i x = true) (h2 : isLoc s x = true) : PG X (.Name x pos) (gName i) := by
  obtain ⟨q1, q2⟩ := isLoc_of cx h2
  exact pg_name (by rw [cx.hN]; exact cx.nd) (nameAt_of cx h1) q1 q2
theorem chkTs_each : ∀ {es : List Expr} {is : List Nat} {env : PySem.Env}, chkTs N s es is = true → (assignEach es env).length = is.length ∧ (assignEach es env).findIdx? (·.1) = none
  | [], is, env, h => by
    cases is with
    | nil => exact ⟨rfl, rfl⟩
    | cons _ _ => unfold chkTs at h; cases h
  | e :: es, is, env, h => by
    cases is with
    | nil => unfold chkTs at h; cases e <;> cases h
    | cons i is =>
      cases e <;> first | (unfold chkTs at h; cases h; done) | skip
      unfold chkTs at h
      simp only [Bool.and_eq_true] at h
      obtain ⟨q1, q2⟩ := chkTs_each (env := env) h.2
      refine ⟨by show (assignEach es env).length + 1 = _; rw [q1]; rfl, ?_⟩
      show ((false, _) :: assignEach es env).findIdx? (·.1) = none
      rw [List.findIdx?_cons, q2]
      rfl
theorem pgs_slots : ∀ {es : List Expr} {is : List Nat}, Ctx T N k X P s → chkTs N s es is = true → PGs X es (gSlots is)
  | [], is, cx, h => by
    cases is with
    | nil => exact pgs_nil
    | cons _ _ => unfold chkTs at h; cases h
  | e :: es, is, cx, h => by
    cases is with
    | nil => unfold chkTs at h; cases e <;> cases h
    | cons i is =>
      cases e <;> first | (unfold chkTs at h; cases h; done) | skip
      unfold chkTs at h
      simp only [Bool.and_eq_true] at h
      exact pgs_cons (pg_slot cx h.1.1 h.1.2) (pgs_slots cx h.2) rfl
theorem pg_tgt {t : Tgt} {tg : Expr} (cx : Ctx T N k X P s) (h : chkT N s tg t = true) : PG X tg (rdG X.K t) := by
  cases t with
  | one i =>
    cases tg <;> first | (unfold chkT at h; cases h; done) | skip
    unfold chkT at h
    simp only [Bool.and_eq_true] at h
    exact pg_slot cx h.1 h.2
  | tup is =>
    cases tg <;> first | (unfold chkT at h; cases h; done) | skip
    rename_i es _ _
    have h : chkTs N s es is = true := by unfold chkT at h; exact h
    obtain ⟨q1, q2⟩ := chkTs_each (env := X.env) h
    exact pg_tup cx.calm (pgs_slots cx h) q1 q2
/-- within a comprehension's block -/
theorem Ctx.blk (cx : Ctx T N k X P s) (s' : Shared) (H' : Hp) (scope : Scope) (cl : List (Str × Addr)) (C : Addr) (fp : List Addr) :
    Ctx T N k (X.blk s' H' scope (compEnvC scope cl C X.env) fp) { P with W := fun _ _ _ _ => False } ⟨relS scope s.sc, fun x => scope.names.lookup x == some .cell⟩ where
  hN := cx.hN
  nd := cx.nd
  sc := by
    show relabel scope X.env = _
    rw [← cx.sc]
    rfl
  fn := fun x h => h
  calm := cx.calm
  room := cx.room
  tk := fun u s'' ⟨_, _, _, _, _, _, _, _, _, _, _, _, _, _, _, _, w⟩ => w
  K := cx.K
  C := cx.C
  cst := cx.cst
  blt := cx.blt
  fns := cx.fns
/-- a clause's tests -/
def rdC (P : Par) (ks : List Nat) (cond : List E) : TT := fun σ H Q => ∃ G O env, Stt P.K H G ks env σ O ∧ Goo P σ H G ks O (mutsL cond) (fun x _ H' _ => ∃ b, x = .bl b ∧ Q b H') (testOf (evs P.C cond) env)
theorem pts_of {cond : List E} {ifs : List Expr} (ic : ∀ a, a ∈ cond → Snd T N k a) (cx : Ctx T N k X P s) (hc : chkL T N cond s ifs = true) (hl : Nat.ble ifs.length 1 = true) (hw : wfL T ks cond = true) : PTs X ifs (rdC P ks cond) := by
  cases ifs with
  | nil =>
    cases cond with
    | cons _ _ => unfold chkL at hc; cases hc
    | nil => exact ⟨fun pins s σ H Q I ⟨G, O, env, S, g⟩ => pts_nil.run pins s σ H Q I (by
        obtain ⟨b, e, q⟩ := g.ok S
        cases e
        exact q)⟩
  | cons c r =>
    cases r with
    | cons _ _ => cases hl
    | nil =>
      cases cond with
      | nil => unfold chkL at hc; cases hc
      | cons m mr =>
        cases mr with
        | cons _ _ => unfold chkL chkL at hc; simp at hc
        | nil =>
          unfold chkL at hc
          simp only [Bool.and_eq_true] at hc
          unfold wfL at hw
          simp only [Bool.and_eq_true] at hw
          have d := ic m List.mem_cons_self X P s ks c cx hc.1.2 hw.1
          refine ⟨fun pins s σ H Q I ⟨G, O, env, S, g⟩ => (pts_one d.pt).run pins s σ H Q I ⟨G, O, env, S, ?_⟩⟩
          have g : Goo P σ H G ks O (mutsL [m]) (fun x _ H' _ => ∃ b, x = .bl b ∧ Q b H') (bindR (bindR (ev P.C m env) fun v e1 => .ok [v] e1) fun vs e1 => List.rec (motive := fun _ => R Val) (.ok (.bl true) e1) (fun v r _ => List.rec (motive := fun _ => R Val) (.ok v e1) (fun _ _ _ => .bad) r) vs) := g
          cases q : ev P.C m env with
          | ok x e =>
            rw [q] at g
            exact Goo.imp (r := .ok x e) g (fun _ h => app_l h) fun _ _ _ _ _ t => t
          | exc x e =>
            rw [q] at g
            exact fun cls d' H' O' p => g cls d' H' O' (p.mono fun _ h => app_l h)
          | bad =>
            rw [q] at g
            exact g
end
end Mp
set_option Elab.async false
set_option linter.all false
set_option maxRecDepth 10000
/-! # Mp: list comprehensions. -/
namespace Mp
open PySem PySem.Spec PyProof.Rows L2

/-- a comprehension under way: D the new list, ys its items -/
structure CSt (K : PySem.W.Frag) (ks : List Nat) (G : Addr → Prop) (M : List Nat) (H1 : Hp) (O1 : Own) (D : Addr) (d : Nat) (σ : L2.St) (H : Hp) (env : Env) (O : Own) (ys : List Val) (acc : List V) (Os : List Addr) : Prop where
  P : Pst K H1 G ks O1 M env σ H O
  S : Stt K H (GX G (D :: Os)) ks env σ O
  hD : H D = some (.lst acc)
  sp : Sp3 (OR K H (AA (GX G (D :: Os)) O) d) ys acc Os
  nd : (D :: Os).Nodup
  new : ∀ a, a ∈ D :: Os → H1 a = none
section
variable {K : PySem.W.Frag} {ks : List Nat} {G : Addr → Prop} {M M2 : List Nat} {H1 H H' : Hp} {O1 O O' : Own} {D : Addr} {d : Nat} {σ σ' : L2.St} {env env' : Env} {ys : List Val} {acc : List V} {Os : List Addr}
theorem Sp3.moved {A A' Ch : Addr → Prop} (e : Ext Ch H H') (n : ∀ a, H a ≠ none → A a → ¬ Ch a) (m : ∀ a, H a ≠ none → A a → A' a) (c : ∀ a, a ∈ Os → ¬ Ch a) (h : Sp3 (OR K H A d) ys acc Os) : Sp3 (OR K H' A' d) ys acc Os :=
  Sp3.impM (fun x v Q1 sub q => q.step e n m fun a ha => c a (sub a ha)) h
/-- something runs in a turn -/
theorem CSt.run (c : CSt K ks G M H1 O1 D d σ H env O ys acc Os) (p : Pst K H (GX G (D :: Os)) ks O M2 env' σ' H' O') (hM : ∀ i, i ∈ M2 → i ∈ M) : CSt K ks G M H1 O1 D d σ' H' env' O' ys acc Os := by
  have hB : ∀ a, a ∈ D :: Os → ∀ i, a ∉ O i := fun a ha i z => (c.S.own i a z).2 ha
  have e : Ext (fun a => ∃ i, i ∈ M2 ∧ a ∈ O i) H H' := p.toExt c.S
  refine ⟨?_, p.st, ?_, ?_, c.nd, c.new⟩
  · have q : Pst K H G ks O M2 env' σ' H' O' := ⟨p.ext, p.dom, p.own, p.new, p.st.mono fun a h => h.1⟩
    exact c.P.trans (q.mono hM)
  · exact p.ext D _ c.hD fun i _ z => hB D List.mem_cons_self i z
  · refine c.sp.moved e (fun a _ h ⟨i, _, z⟩ => h.2 i z) (fun a n h => ⟨h.1, fun i z => ?_⟩) fun a ha ⟨i, _, z⟩ => hB a (List.mem_cons_of_mem _ ha) i z
    rcases p.new i a z with y | y
    · exact h.2 i y
    · exact n y
/-- slots alone -/
theorem CSt.slots (c : CSt K ks G M H1 O1 D d σ H env O ys acc Os) (S : Stt K H (GX G (D :: Os)) ks env' σ' O) : CSt K ks G M H1 O1 D d σ' H env' O ys acc Os :=
  ⟨⟨c.P.ext, c.P.dom, c.P.own, c.P.new, S.mono fun a h => h.1⟩, S, c.hD, c.sp, c.nd, c.new⟩
/-- one list is written, no slot leads to it -/
theorem Stt.chg {us ws : List V} (S : Stt K H G ks env σ O) (hl : H D = some (.lst us)) (hg : ¬ G D) : Stt K (upd H D (.lst ws)) G ks env σ O := by
  have ex : Ext (fun a => a = D) H (upd H D (.lst ws)) := ⟨fun b o h n => by rw [upd_ne n]; exact h, fun b h => ⟨us, h ▸ hl⟩⟩
  refine ⟨fun i z => ?_, S.emp, S.nd, S.dj, S.own, fun a z => ?_, S.len⟩
  · obtain ⟨v, e, q⟩ := S.slot i z
    exact ⟨v, e, q.step ex (fun a _ h e => hg (e ▸ h.1)) (fun _ _ h => h) fun a h e => hg (e ▸ S.own i a h)⟩
  · by_cases e : a = D
    · subst e
      rw [upd_same] at z
      cases z
    · rw [upd_ne e] at z
      exact S.fresh a z
/-- an item more -/
theorem CSt.item {x : Val} {v : V} {H0 : Hp} {env0 : Env} {O0 : Own} (c0 : CSt K ks G M H1 O1 D d σ H0 env0 O0 ys acc Os) (p : Pst K H0 (GX G (D :: Os)) ks O0 M2 env σ' H O) (hM : ∀ i, i ∈ M2 → i ∈ M) (n : NewV K H0 H (GX G (D :: Os)) ks env σ' O d x v) :
    ∃ Os', CSt K ks G M H1 O1 D d σ' (upd H D (.lst (acc ++ [v]))) env O (ys ++ [x]) (acc ++ [v]) Os' := by
  have c := c0.run p hM
  obtain ⟨Ow, n1, n2, n3, n4⟩ := n
  have hB0 : ∀ a, a ∈ D :: Os → ∀ i, a ∉ O0 i := fun a ha i z => (c0.S.own i a z).2 ha
  obtain ⟨ndD, ndO⟩ := List.nodup_cons.mp c0.nd
  have hDw : D ∉ Ow := fun z => (n3 D z).2.1.2 List.mem_cons_self
  have S1 : Stt K (upd H D (.lst (acc ++ [v]))) (GX (GX G (D :: Os)) Ow) ks env σ' O := n4.chg c.hD (fun z => z.1.2 List.mem_cons_self)
  have gg : ∀ a, GX (GX G (D :: Os)) Ow a → GX G (D :: (Os ++ Ow)) a := fun a h => ⟨h.1.1, fun z => by
    rcases List.mem_cons.mp z with e | e
    · exact h.1.2 (by rw [e]; exact List.mem_cons_self)
    · rcases List.mem_append.mp e with e | e
      · exact h.1.2 (List.mem_cons_of_mem _ e)
      · exact h.2 e⟩
  have S2 := S1.mono gg
  refine ⟨Os ++ Ow, ⟨fun a o h q => ?_, fun a z => ?_, c.P.own, c.P.new, S2.mono fun a h => h.1⟩, S2, upd_same, ?_, ?_, fun a ha => ?_⟩
  · have e : a ≠ D := fun e => by
      have := c0.new D List.mem_cons_self
      rw [← e, h] at this
      cases this
    rw [upd_ne e]
    exact c.P.ext a o h q
  · by_cases e : a = D
    · subst e
      rw [upd_same] at z
      cases z
    · rw [upd_ne e] at z
      exact c.P.dom a z
  · refine Sp3.app ?_ (Sp3.moved (Ch := fun a => a = D ∨ ∃ i, i ∈ M2 ∧ a ∈ O0 i) ⟨fun a o h q => ?_, fun a h => ?_⟩ (fun a _ h q => ?_) (fun a h0 h => ?_) (fun a h q => ?_) c0.sp)
    · have ex : Ext (fun a => a = D) H (upd H D (.lst (acc ++ [v]))) := ⟨fun b o h n => by rw [upd_ne n]; exact h, fun b h => ⟨acc, h ▸ c.hD⟩⟩
      exact n1.step ex (fun a _ h e => h.1.1.2 (by rw [e]; exact List.mem_cons_self)) (fun a _ h => ⟨gg a h.1, h.2⟩) fun a h e => hDw (e ▸ h)
    · have e : a ≠ D := fun e => q (.inl e)
      rw [upd_ne e]
      exact p.ext a o h fun i hi z => q (.inr ⟨i, hi, z⟩)
    · rcases h with e | ⟨i, _, z⟩
      · exact ⟨acc, e ▸ c0.hD⟩
      · exact c0.S.there z
    · rcases q with e | ⟨i, _, z⟩
      · exact h.1.2 (by rw [e]; exact List.mem_cons_self)
      · exact h.2 i z
    · refine ⟨⟨h.1.1, fun z => ?_⟩, fun i z => ?_⟩
      · rcases List.mem_cons.mp z with e | e
        · exact h.1.2 (by rw [e]; exact List.mem_cons_self)
        · rcases List.mem_append.mp e with e | e
          · exact h.1.2 (List.mem_cons_of_mem _ e)
          · exact h0 (n3 a e).1
      · rcases p.new i a z with y | y
        · exact h.2 i y
        · exact h0 y
    · rcases q with e | ⟨i, _, z⟩
      · exact ndD (e ▸ h)
      · exact hB0 a (List.mem_cons_of_mem _ h) i z
  · refine List.nodup_cons.mpr ⟨fun z => ?_, List.nodup_append.mpr ⟨ndO, n2, fun a h b h2 e => ?_⟩⟩
    · rcases List.mem_append.mp z with e | e
      · exact ndD e
      · exact hDw e
    · subst e
      exact (n3 a h2).2.1.2 (List.mem_cons_of_mem _ h)
  · rcases List.mem_cons.mp ha with e | e
    · rw [e]; exact c0.new D List.mem_cons_self
    · rcases List.mem_append.mp e with e | e
      · exact c0.new a (List.mem_cons_of_mem _ e)
      · exact c0.P.dom a (n3 a e).1
end
section
variable {T : Tab} {N : List Str} {k : Nat} {X : Cx} {P : Par} {s : Sx} {ks : List Nat}
theorem calm_ok' {α : Type} {r : R α} {a : α} {e : Env} (h : calm r = .ok a e) : r = .ok a e := by
  cases r with
  | ok x e' => exact h
  | exc x e' => cases h
  | bad => cases h
/-- what is left of a comprehension -/
def Rem (P : Par) (ks : List Nat) (G : Addr → Prop) (M : List Nat) (σ : L2.St) (H1 : Hp) (O1 : Own) (e1 : Env) (t : Tgt) (d : Nat) (Q : VK) (ys : List Val) : R (List Val) → Prop
  | .ok rest e2 => ∀ H' O', Pst P.K H1 G ks O1 M (rst e1 t.slots e2) σ H' O' → ∀ v, NewV P.K H1 H' G ks (rst e1 t.slots e2) σ O' (d + 1) (.lst (ys ++ rest)) v → Q v H'
  | .exc _ _ => True
  | .bad => False
/-- the slots of the target as they were -/
theorem Stt.back {K : PySem.W.Frag} {G G0 : Addr → Prop} {M : List Nat} {H1 H : Hp} {O1 O : Own} {e1 e2 : Env} {σ : L2.St} {vs : List Nat} (S1 : Stt K H1 G0 ks e1 σ O1) (p : Pst K H1 G0 ks O1 M e2 (L2.wipe σ vs) H O) (S : Stt K H G ks e2 (L2.wipe σ vs) O) (hz : zeros ks vs = true)
    (hg : ∀ a, H1 a ≠ none → AA G0 O a → AA G O a) : Stt K H G ks (rst e1 vs e2) σ O := by
  refine ⟨fun j hj => ?_, fun j hj => ?_, S.nd, S.dj, S.own, S.fresh, by rw [rst_len, ← wipe_length σ vs]; exact S.len⟩
  · rw [gt_rst] at hj ⊢
    by_cases h : j ∈ vs ∧ j < e2.length
    · rw [if_pos h] at hj ⊢
      obtain ⟨v, h1, h2⟩ := S1.slot j hj
      have kz := zeros_at hz h.1
      rw [kz] at h2 ⊢
      rcases h2 with ⟨e, _⟩ | ⟨_, h2, _⟩
      · cases e
      · refine ⟨v, h1, .inr ⟨by decide, ?_, zero_own S kz⟩⟩
        exact h2.step (p.toExt S1) (fun a _ ha ⟨i, _, z⟩ => ha.2 i z) fun a n ha => hg a n ⟨ha.1, fun i z => by
          rcases p.new i a z with y | y
          · exact ha.2 i y
          · exact n y⟩
    · rw [if_neg h] at hj ⊢
      obtain ⟨v, h1, h2⟩ := S.slot j hj
      exact ⟨v, (wipe_some h1).1, h2⟩
  · rw [gt_rst] at hj
    by_cases h : j ∈ vs ∧ j < e2.length
    · exact zero_own S (zeros_at hz h.1)
    · rw [if_neg h] at hj
      exact S.emp j hj
/-- the end -/
theorem comp_end {G : Addr → Prop} {M : List Nat} {σ : L2.St} {H1 H : Hp} {O1 O : Own} {e1 env : Env} {t : Tgt} {d : Nat} {Q : VK} {ys : List Val} {acc : List V} {Os : List Addr} {D : Addr} (S1 : Stt P.K H1 G ks e1 σ O1) (hz : zeros ks t.slots = true) (hd : d + 1 ≠ 3)
    (c : CSt P.K ks G M H1 O1 D d (L2.wipe σ t.slots) H env O ys acc Os) (r : Rem P ks G M σ H1 O1 e1 t d Q ys (.ok [] env)) : Q (.ref D) H := by
  have hB : ∀ a, a ∈ D :: Os → ∀ i, a ∉ O i := fun a ha i z => (c.S.own i a z).2 ha
  have sb := S1.back c.P c.S hz (G := GX G (D :: Os)) fun a n h => ⟨⟨h.1, fun z => n (c.new a z)⟩, h.2⟩
  refine r H O ⟨c.P.ext, c.P.dom, c.P.own, c.P.new, sb.mono fun a h => h.1⟩ _ ⟨D :: Os, .inl ⟨_, D, acc, Os, rfl, rfl, c.hD, rfl, ?_⟩, c.nd, fun a ha => ⟨c.new a ha, ?_, hB a ha⟩, sb⟩
  · rw [List.append_nil]
    exact c.sp
  · exact S1.fresh a (c.new a ha)

theorem Oprs.keepX {K : PySem.W.Frag} {G : Addr → Prop} {M B : List Nat} {H1 H : Hp} {O1 O : Own} {e1 env : Env} {σ σ' : L2.St} (S1 : Stt K H1 G ks e1 σ O1) (p : Pst K H1 G ks O1 M env σ' H O) (hB : ∀ a, a ∈ B → H1 a = none) :
    ∀ {srcs : List E} {xs : List Val} {vs : List V}, awayL ks srcs M = true → Oprs K H1 G ks O1 σ srcs xs vs → Oprs K H (GX G B) ks O σ srcs xs vs
  | [], _, _, _, h => h
  | e :: es, xs, vs, aw, ⟨x, xr, v, vr, h1, h2, h3, t⟩ => by
    unfold awayL at aw
    simp only [Bool.and_eq_true] at aw
    refine ⟨x, xr, v, vr, h1, h2, ?_, Oprs.keepX S1 p hB aw.2 t⟩
    cases hio : isIoOf e with
    | some i => rw [hio] at h3; exact h3
    | none =>
      rw [hio] at h3
      have m : ∀ a, H1 a ≠ none → AA G O1 a → AA (GX G B) O a := fun a n h => ⟨⟨h.1, fun z => n (hB a z)⟩, fun i z => by
        rcases p.new i a z with y | y
        · exact h.2 i y
        · exact n y⟩
      have nn : ∀ a, H1 a ≠ none → AA G O1 a → ¬ ∃ i, i ∈ M ∧ a ∈ O1 i := fun a _ h ⟨i, _, z⟩ => h.2 i z
      have h3 : Opr K H1 G O1 (ud ks e) (root e) x v := h3
      show Opr K H (GX G B) O (ud ks e) (root e) x v
      rcases h3 with ⟨Or, so, ho⟩ | h3
      · have key : root e ∉ M ∨ Or = [] := by
          rcases away_of aw.1 with u | u
          · rw [u] at so
            rcases so with ⟨e3, _⟩ | ⟨_, q⟩
            · cases e3
            · exact .inr q.2
          · exact .inl u
        refine .inl ⟨Or, so.step (p.toExt S1) nn m fun a ha ⟨i, hi, z⟩ => ?_, fun a ha => ?_⟩
        · rcases key with u | u
          · have := S1.dj i (root e) a z (ho a ha)
            subst this
            exact u hi
          · rw [u] at ha; cases ha
        · rcases key with u | u
          · rw [p.own _ u]; exact ho a ha
          · rw [u] at ha; cases ha
      · exact .inr (h3.step (p.toExt S1) nn m)
theorem CSt.yl {K : PySem.W.Frag} {G : Addr → Prop} {M : List Nat} {H1 H H' : Hp} {O1 O : Own} {D : Addr} {d : Nat} {σ : L2.St} {env : Env} {ys : List Val} {acc : List V} {Os : List Addr} (c : CSt K ks G M H1 O1 D d σ H env O ys acc Os) (y : Yl H H') : CSt K ks G M H1 O1 D d σ H' env O ys acc Os := by
  rcases y with e | ⟨p, o, hp, e⟩
  · subst e; exact c
  · subst e
    exact c.run (Pst.laid (M := []) c.S hp) (fun _ z => nomatch z)
theorem rem_cons {G : Addr → Prop} {M : List Nat} {σ : L2.St} {H1 : Hp} {O1 : Own} {e1 : Env} {t : Tgt} {d : Nat} {Q : VK} {ys : List Val} {x : Val} {r : R (List Val)} (h : Rem P ks G M σ H1 O1 e1 t d Q ys (bindR r fun vs e4 => .ok (x :: vs) e4)) : Rem P ks G M σ H1 O1 e1 t d Q (ys ++ [x]) r := by
  cases r with
  | ok rest e =>
    intro H' O' p v n
    rw [List.append_assoc] at n
    exact h H' O' p v n
  | exc x e => exact True.intro
  | bad => exact h
theorem comp_loop {t : Tgt} {srcs cond : List E} {elt : E} {σ : L2.St} {H1 : Hp} {G : Addr → Prop} {O1 : Own} {e1 : Env} {M : List Nat} {d : Nat} {Q : VK} {xs zs : List Val} {vs : List V} {J : It} {D : Addr} (S1 : Stt P.K H1 G ks e1 σ O1) (hz : zeros ks t.slots = true) (hd : d + 1 ≠ 3)
    (o1 : Oprs P.K H1 G ks O1 σ srcs xs vs) (aw : awayL ks srcs M = true) (hM1 : ∀ i, i ∈ mutsL cond → i ∈ M) (hM2 : ∀ i, i ∈ muts elt → i ∈ M) (wk : Wk P.K ks σ t srcs xs vs zs J) (hD : H1 D = none) (hl : zs.length ≤ LIM)
    (r : Rem P ks G M σ H1 O1 e1 t d Q [] (compN t (testOf (evs P.C cond)) (ev P.C elt) zs (kills t.slots e1))) :
    ∃ W : Nat → Nat → Hp → Prop, (∃ m, W 0 m (upd H1 D (.lst []))) ∧ ∀ i m H, W i m H → (J.stop i H ∧ Q (.ref D) H) ∨ (J.go i H ∧ ∃ Nx : Hp → Prop, (∀ H', Nx H' → ∃ m', m' < m ∧ W (i + 1) m' H') ∧ ∀ x H', J.yld i H x H' → rdG P.K t x (L2.wipe σ t.slots) H' fun σ2 H2 => L2.wipe σ2 t.slots = L2.wipe σ t.slots ∧
      rdC { P with W := fun _ _ _ _ => False } ks cond σ2 H2 fun b H3 => if b = true then rdF { P with W := fun _ _ _ _ => False } ks elt d σ2 H3 fun y H4 => ∃ acc, H4 D = some (.lst acc) ∧ acc.length < sizeLine ∧ Nx (upd H4 D (.lst (acc ++ [y]))) else Nx H3) := by
  refine ⟨fun i m H => m = zs.length - i ∧ i ≤ zs.length ∧ ∃ O env ys acc Os, CSt P.K ks G M H1 O1 D d (L2.wipe σ t.slots) H env O ys acc Os ∧ acc.length ≤ i ∧
    Rem P ks G M σ H1 O1 e1 t d Q ys (compN t (testOf (evs P.C cond)) (ev P.C elt) (zs.drop i) env), ⟨zs.length, by simp, Nat.zero_le _, O1, kills t.slots e1, [], [], [], ⟨?_, (S1.laidX hD).wipe hz, upd_same, ⟨rfl, rfl⟩, by simp, fun a ha => by rw [List.mem_singleton.mp ha]; exact hD⟩, Nat.zero_le _, r⟩, ?_⟩
  · have q := Pst.laid (M := M) (o := .lst []) S1 hD
    exact ⟨q.ext, q.dom, q.own, q.new, (S1.laid hD).wipe hz⟩
  rintro i m H ⟨rfl, hi, O, env, ys, acc, Os, c, hacc, rem⟩
  have oX := o1.keepX (B := D :: Os) S1 c.P c.new aw
  obtain ⟨wgo, wstop⟩ := wk _ _ _ oX i
  by_cases hlt : i < zs.length
  · have hzi : zs[i]? = some zs[i] := List.getElem?_eq_getElem hlt
    obtain ⟨hgo, hy⟩ := wgo _ hzi
    refine .inr ⟨hgo, fun H'' => ∃ m', m' < zs.length - i ∧ (m' = zs.length - (i + 1) ∧ i + 1 ≤ zs.length ∧ ∃ O env ys acc Os, CSt P.K ks G M H1 O1 D d (L2.wipe σ t.slots) H'' env O ys acc Os ∧ acc.length ≤ i + 1 ∧
      Rem P ks G M σ H1 O1 e1 t d Q ys (compN t (testOf (evs P.C cond)) (ev P.C elt) (zs.drop (i + 1)) env)), fun H' h => h, fun x H' y => ?_⟩
    obtain ⟨yl, iv⟩ := hy x H' y
    have c1 := c.yl yl
    rw [List.drop_eq_getElem_cons hlt, compN_cons] at rem
    cases hb : bindT t zs[i] env with
    | none => rw [hb] at rem; exact rem.elim
    | some env1 =>
      rw [hb] at rem
      refine bindT_ok c1.S hz iv hb fun σ2 S2 len2 same2 => ?_
      have hw2 : L2.wipe σ2 t.slots = L2.wipe σ t.slots := by
        rw [list_ext_wipe len2 same2, wipe_wipe]
      refine ⟨hw2, ?_⟩
      have c2 := c1.slots S2
      refine ⟨_, O, env1, S2, ?_⟩
      show Goo _ σ2 H' (GX G (D :: Os)) ks O (mutsL cond) _ (testOf (evs P.C cond) env1)
      cases ht : testOf (evs P.C cond) env1 with
      | bad =>
        rw [bindX_some, ht] at rem
        exact rem.elim
      | exc x e =>
        rw [bindX_some, ht] at rem
        exact rem.elim
      | ok cv e2 =>
        rw [bindX_some, ht] at rem
        cases cv with
        | bl b =>
          intro H3 O3 p3
          refine ⟨b, rfl, ?_⟩
          have c3 := c2.run p3 hM1
          cases b with
          | false =>
            refine ⟨zs.length - (i + 1), by omega, rfl, hlt, O3, kills t.slots e2, ys, acc, Os, ?_, by omega, rem⟩
            have q := p3.st.wipe hz
            rw [hw2] at q
            exact c3.slots q
          | true =>
            refine ⟨_, O3, e2, p3.st, ?_⟩
            have rem : Rem P ks G M σ H1 O1 e1 t d Q ys (bindR (calm (ev P.C elt e2)) fun v e3 => bindR (compN t (testOf (evs P.C cond)) (ev P.C elt) (zs.drop (i + 1)) (kills t.slots e3)) fun vs e4 => .ok (v :: vs) e4) := rem
            show Goo _ σ2 H3 (GX G (D :: Os)) ks O3 (muts elt) _ (ev P.C elt e2)
            cases he : ev P.C elt e2 with
            | bad =>
              rw [he] at rem
              exact rem.elim
            | exc x e =>
              rw [he] at rem
              exact rem.elim
            | ok xv e3 =>
              rw [he] at rem
              intro H4 O4 p4 v nv
              have c4 := c3.run p4 hM2
              refine ⟨acc, c4.hD, ?_, ?_⟩
              · have := lim_line (n := zs.length) (Nat.ble_eq_true_of_le hl)
                omega
              · obtain ⟨Os', c5⟩ := c3.item p4 hM2 nv
                refine ⟨zs.length - (i + 1), by omega, rfl, hlt, O4, kills t.slots e3, ys ++ [xv], acc ++ [v], Os', ?_, by rw [List.length_append]; simp; omega, rem_cons rem⟩
                have q := c5.S.wipe hz
                rw [hw2] at q
                exact c5.slots q
        | _ => exact rem.elim
  · have e : i = zs.length := by omega
    refine .inl ⟨wstop e, ?_⟩
    rw [e, List.drop_length] at rem
    exact comp_end S1 hz hd c rem
theorem noSet_fold {e : Expr} {env : PySem.Env} (h : noSet e = true) : ∀ x, foldedSetIterable e env x = pure x := by
  intro x
  cases e <;> first | rfl | cases h
theorem ownOf_slots (N : List Str) (t : Tgt) : (ownOf N t).map (·.2) = t.slots := by
  unfold ownOf
  rw [List.map_map]
  exact List.map_id _
theorem compI_goo {σ : L2.St} {H : Hp} {G : Addr → Prop} {O : Own} {M : List Nat} {T1 : Val → Env → Hp → Own → Prop} {t : Tgt} {c1 c2 : Env → R Val} {e1 : Env} {o : Option (List Val)} (g : Goo P σ H G ks O M T1 (compI t c1 c2 e1 o)) :
    ∃ zs, o = some zs ∧ zs.length ≤ LIM ∧ Goo P σ H G ks O M T1 (bindR (compN t c1 c2 zs (kills t.slots e1)) fun ys e2 => .ok (.lst ys) (rst e1 t.slots e2)) := by
  cases o with
  | none => exact g.elim
  | some zs =>
    obtain ⟨h1, h2⟩ := sel_goo (P := P) (ks := ks) g
    exact ⟨zs, rfl, Nat.le_of_ble_eq_true h1, h2⟩
/-- the comprehension's reading -/
theorem comp_rd {t : Tgt} {kk : Src} {srcs cond : List E} {elt : E} {σ : L2.St} {H : Hp} {d : Nat} {Q : VK} (hw : wfE T ks (.comp t kk srcs cond elt) = true) (hd : d + 1 ≠ 3) (h : rdF P ks (.comp t kk srcs cond elt) (d + 1) σ H Q) :
    tLc (rdI P ks t kk srcs) (rdG P.K t) (rdC { P with W := fun _ _ _ _ => False } ks cond) (rdF { P with W := fun _ _ _ _ => False } ks elt d) t.slots σ H Q := by
  unfold wfE at hw
  simp only [Bool.and_eq_true] at hw
  obtain ⟨⟨⟨⟨⟨⟨⟨⟨w1, w2⟩, w3⟩, w4⟩, w5⟩, w6⟩, w7⟩, w8⟩, w9⟩ := hw
  obtain ⟨G, O, env, S, g⟩ := h
  rw [ev_comp] at g
  refine ⟨G, O, env, S, ?_⟩
  have hm : ∀ i, i ∈ mutsL srcs → i ∈ muts (.comp t kk srcs cond elt) := fun i h => app_l h
  have g : Goo P σ H G ks O (muts (.comp t kk srcs cond elt)) (fun x e' H' O' => ∀ v, NewV P.K H H' G ks e' σ O' (d + 1) x v → Q v H') (bindR (evs P.C srcs env) fun vs e1 => compI t (testOf (evs P.C cond)) (ev P.C elt) e1 (items kk vs)) := g
  cases hs : evs P.C srcs env with
  | bad => rw [hs] at g; exact g
  | exc x e => rw [hs] at g; exact fun cls d H' O' p => g cls d H' O' (p.mono hm)
  | ok xs e1 =>
    rw [hs] at g
    intro H1 O1 p1
    obtain ⟨zs, hzs, hl, g1⟩ := compI_goo (Goo.shift p1 hm g)
    refine ⟨zs, hzs, fun vs o1 J wk D hD => ?_⟩
    refine comp_loop p1.st w5 hd o1 w4 (fun i h => app_l h) (fun i h => app_r h) wk hD hl ?_
    cases hc : compN t (testOf (evs P.C cond)) (ev P.C elt) zs (kills t.slots e1) with
    | bad => rw [hc] at g1; exact g1
    | exc x e => exact True.intro
    | ok rest e2 =>
      rw [hc] at g1
      exact fun H' O' p v n => g1 H' O' (p.mono fun i h => app_r h) v (n.down p1)
theorem snd_comp {t : Tgt} {kk : Src} {srcs cond : List E} {elt : E} (is : ∀ a, a ∈ srcs → Snd T N k a) (ic : ∀ a, a ∈ cond → Snd T N k a) (ie : Snd T N k elt) : Snd T N k (.comp t kk srcs cond elt) := by
  intro X P s ks e cx hc hw
  unfold chkE at hc
  split at hc
  · rename_i x tg iter ifs scope pos
    simp only [Bool.and_eq_true] at hc
    obtain ⟨⟨⟨⟨⟨⟨h1, h2⟩, h3⟩, h4⟩, h5⟩, h6⟩, h7⟩ := hc
    have hw' := hw
    unfold wfE at hw'
    simp only [Bool.and_eq_true] at hw'
    obtain ⟨⟨⟨⟨⟨⟨⟨⟨w1, w2⟩, w3⟩, w4⟩, w5⟩, w6⟩, w7⟩, w8⟩, w9⟩ := hw'
    have ok : BlkOk X.N X.env.scope scope (ownOf N t) := by rw [cx.hN, cx.sc]; exact blkOk_by h1
    have hi := pi_src (t := t) cx is h3 h5 w1 w2 w3
    have key : ∀ d, d + 1 ≠ 3 → (d = 0 ∨ d ≤ fr T ks elt) → PE X (.ListComp x [⟨tg, iter, ifs, 0⟩] scope pos) (rdF P ks (.comp t kk srcs cond elt) (d + 1)) := fun d hd hf => by
      refine (pe_lc (pos := pos) (g := rdG X.K t) (tt := rdC { P with W := fun _ _ _ _ => False } ks cond) (te := rdF { P with W := fun _ _ _ _ => False } ks elt d) cx.calm (by rw [cx.hN]; exact cx.nd) hi ok (fun s' H' C cl fp => pg_tgt (cx.blk s' H' scope cl C fp) h5) (fun s' H' C cl fp => pts_of ic (cx.blk s' H' scope cl C fp) h6 h4 w7)
        (fun s' H' C cl fp => ?_) (noSet_fold h2)).imp fun σ H Q h => ?_
      · have sd := ie _ _ _ ks x (cx.blk s' H' scope cl C fp) h7 w8
        cases d with
        | zero => exact pe_of0 sd.pe w9
        | succ d => exact sd.pf (d + 1) (Nat.succ_pos _) (by omega)
      · have q := comp_rd hw hd h
        rw [ownOf_slots, cx.K]
        exact q
    have k1 := key 0 (by decide) (.inl rfl)
    refine ⟨pe_ofF k1, pt_of (pe_ofF k1) (fun _ => rfl), not_bool rfl, fun d h1 h2 => ?_⟩
    cases d with
    | zero => omega
    | succ d =>
      have e : fr T ks (.comp t kk srcs cond elt) = 1 + min 1 (fr T ks elt) := rfl
      rw [e] at h2
      refine key d (by omega) ?_
      omega
  · cases hc
end
end Mp
set_option Elab.async false
set_option linter.all false
/-! # Mp: every expression is what it computes. -/
namespace Mp
open PySem PySem.Spec PyProof.Rows L2
theorem sndE (T : Tab) (N : List Str) (k : Nat) (m : E) : Snd T N k m :=
  E.rec (motive_1 := fun m => Snd T N k m) (motive_2 := fun l => ∀ a, a ∈ l → Snd T N k a)
    snd_int snd_str snd_bl snd_non snd_cst snd_var snd_io (fun _ h => snd_tup (sndL_of h)) (fun _ h => snd_lst (sndL_of h) h) (fun _ _ _ h1 h2 => snd_bin h1 h2) (fun _ h => snd_neg h)
    (fun _ _ _ h1 h2 => snd_cmp h1 h2) (fun _ _ _ _ _ h1 h2 h3 => snd_cmp2 h1 h2 h3) (fun _ _ h1 h2 => snd_and h1 h2) (fun _ _ h1 h2 => snd_or h1 h2) (fun _ h => snd_not h) (fun _ _ _ h1 h2 h3 => snd_ite h1 h2 h3)
    (fun _ _ h1 h2 => snd_idx h1 h2) (fun _ _ _ h1 h2 h3 => snd_slc h1 h2 h3) (fun _ h => snd_rv h) (fun _ _ _ _ h => snd_call h) (fun _ _ h => snd_bi h) (fun _ _ _ h1 h2 => snd_me h1 h2)
    snd_pop (fun _ _ h => snd_popAt h) (fun _ _ _ _ _ h1 h2 h3 => snd_comp h1 h2 h3) (fun _ h => nomatch h) (fun a r h1 h2 b hb => by
      rcases List.mem_cons.mp hb with e | e
      · subst e; exact h1
      · exact h2 b e) m
theorem sndL (T : Tab) (N : List Str) (k : Nat) (l : List E) : SndL T N k l := sndL_of fun a _ => sndE T N k a
end Mp
set_option Elab.async false
set_option linter.all false
set_option maxRecDepth 10000
/-! # Mp: statements: which text, how the kinds of the slots change. -/
noncomputable section
namespace Mp
open PySem PySem.Spec PyProof.Rows L2

/-! ### the text -/
def noTup : Expr → Bool
  | .Tuple _ _ _ => false
  | _ => true
def distinct : List Str → Bool
  | [] => true
  | x :: r => !r.contains x && distinct r
/-- the names that are stored from the right -/
def swNames (sc : Scope) (ts : List Expr) : List Str := ts.filterMap fun
  | .Name id pos => if sc.names.lookup id == some .local && pos.line == (ts.head?.map (·.pos.line)).getD 0 then some id else none
  | _ => none
def swLen (ts vs : List Expr) : Bool := !(ts.length == 2 || ts.length == 3) || vs.length != ts.length
def isStarE : Expr → Bool
  | .Starred .. => true
  | _ => false
/-- stored from the right -/
def swYes (sc : Scope) (ts vs : List Expr) : Bool := !swLen ts vs && !(vs.any isStarE) && !((swNames sc ts).length != ts.length || (swNames sc ts).eraseDups.length != (swNames sc ts).length) &&
  !vs.all (foldedForSure 8) && !vs.all (constantsAlone 8)
/-- .. from the left -/
def swNo (sc : Scope) (ts vs : List Expr) : Bool := swLen ts vs || (vs.any isStarE) || ((swNames sc ts).length != ts.length || (swNames sc ts).eraseDups.length != (swNames sc ts).length) || vs.all (foldedForSure 8)
def isLocs (s : Sx) : List Expr → Bool
  | [] => true
  | .Name x _ :: r => isPlainLoc s x && isLocs s r
  | _ => false
/-- no text stands for it -/
def isSkip : S → Bool
  | .fz _ => true
  | .kill _ => true
  | _ => false
section
variable (T : Tab) (N : List Str)
mutual
def chkS : S → Sx → Stmt → Bool
  | .asg i _ e, s, st => match st with
    | .Assign [.Name x _] v _ => nameAt N i x && isLoc s x && chkE T N e s v
    | _ => false
  | .mv i j, s, st => match st with
    | .Assign [.Name x _] (.Name y _) _ => nameAt N i x && isLoc s x && nameAt N j y && isVis s y
    | _ => false
  | .asgT is e, s, st => match st with
    | .Assign [.Tuple es _ _] v _ => chkTs N s es is && noTup v && noComp v && chkE T N e s v
    | _ => false
  | .par is _ es, s, st => match st with
    | .Assign [.Tuple ts _ _] (.Tuple vs _ _) _ => chkTs N s ts is && chkL T N es s vs && ((swYes s.sc ts vs && isLocs s ts) || swNo s.sc ts vs) && Nat.ble vs.length 1000
    | _ => false
  | .sub1 i ix v, s, st => match st with
    | .Assign [.Subscript (.Name x _) y _] e _ => nameAt N i x && isVis s x && noSlice y && noComp e && chkE T N ix s y && chkE T N v s e
    | _ => false
  | .sub2 i ix iy v, s, st => match st with
    | .Assign [.Subscript (.Subscript (.Name x _) y _) z _] e _ => nameAt N i x && isVis s x && noSlice y && noSlice z && noComp e && chkE T N ix s y && chkE T N iy s z && chkE T N v s e
    | _ => false
  | .app i v, s, st => match st with
    | .Expr (.Call (.Attribute (.Name x _) n p) [y] [] q) _ => (n == ("append" : Str)) && (p.endLine == q.line) && nameAt N i x && isVis s x && noStar y && chkE T N v s y
    | _ => false
  | .app1 i ix v, s, st => match st with
    | .Expr (.Call (.Attribute (.Subscript (.Name x _) y _) n p) [z] [] q) _ => (n == ("append" : Str)) && (p.endLine == q.line) && nameAt N i x && isVis s x && noSlice y && noStar z && chkE T N ix s y && chkE T N v s z
    | _ => false
  | .ex e, s, st => match st with
    | .Expr v _ => noComp v && chkE T N e s v
    | _ => false
  | .ite c a b, s, st => match st with
    | .If t x y _ => chkE T N c s t && chkSs a s x && chkSs b s y
    | _ => false
  | .whl _ c b, s, st => match st with
    | .While t x [] _ => chkE T N c s t && chkSs b s x
    | _ => false
  | .loop t k srcs b, s, st => match st with
    | .For tg iter x [] _ => noSet iter && chkI T k (chkL T N srcs s) s tg iter && chkT N s tg t && chkSs b s x
    | _ => false
  | .ret e, s, st => match st with
    | .Return (some v) _ => chkE T N e s v
    | _ => false
  | .retN, _, st => match st with
    | .Return none _ => true
    | _ => false
  | .brk, _, st => match st with
    | .Break _ => true
    | _ => false
  | .pass, _, st => match st with
    | .Pass _ => true
    | _ => false
  | .raise _ _, _, _ => true
  | .fz _, _, _ => false
  | .kill _, _, _ => false
def chkSs : List S → Sx → List Stmt → Bool
  | [], _, st => match st with
    | [] => true
    | _ => false
  | a :: r, s, st => if isSkip a then chkSs r s st else (match st with
      | x :: xr => chkS a s x && chkSs r s xr
      | [] => false)
end
end

/-! ### kinds -/
def eqK : List Nat → List Nat → Bool
  | [], [] => true
  | a :: r, b :: q => Nat.beq a b && eqK r q
  | _, _ => false
def setK (ks : List Nat) : List Nat → List Nat → List Nat
  | i :: is, d :: ds => setK (ks.set i d) is ds
  | _, _ => ks
mutual
/-- the slots that a statement binds or whose lists it changes -/
def mutsS : S → List Nat
  | .asg i _ e => i :: muts e
  | .mv i j => [i, j]
  | .fz i => [i]
  | .asgT is e => is ++ muts e
  | .par is _ es => is ++ mutsL es
  | .sub1 i ix v => i :: (muts ix ++ muts v)
  | .sub2 i ix iy v => i :: (muts ix ++ (muts iy ++ muts v))
  | .app i v => i :: muts v
  | .app1 i ix v => i :: (muts ix ++ muts v)
  | .ex e => muts e
  | .ite c a b => muts c ++ (mutsSs a ++ mutsSs b)
  | .whl _ c b => muts c ++ mutsSs b
  | .loop t _ srcs b => t.slots ++ (mutsL srcs ++ mutsSs b)
  | .ret e => root e :: muts e
  | .raise _ _ => []
  | .kill is => is
  | _ => []
def mutsSs : List S → List Nat
  | [] => []
  | a :: r => mutsS a ++ mutsSs r
end
section
variable (T : Tab) (kd0 : List Nat) (fr0 : Nat) (io : List Nat)
/-- a value that may be had d deep new -/
def newE (ks : List Nat) (e : E) (d : Nat) : Bool := wfE T ks e && (if Nat.beq d 0 then safe ks e else Nat.ble d (fr T ks e) && !Nat.beq d 3)
def newL (ks : List Nat) : List E → List Nat → Bool
  | [], [] => true
  | e :: es, d :: ds => newE T ks e d && newL ks es ds
  | _, _ => false
def okSlot (ks : List Nat) (i : Nat) : Bool := Nat.blt i ks.length && !io.contains i
def okSlots (ks : List Nat) : List Nat → Bool
  | [] => true
  | i :: is => okSlot io ks i && okSlots ks is
/-- a slot's own list is handed back -/
def retVar (ks : List Nat) : E → Bool
  | .var i => Nat.beq (kd ks i) fr0 && Nat.ble 1 fr0 && !Nat.beq fr0 3 && okSlot io ks i
  | _ => false
/-- the parameters that are handed back are as they were -/
def ioK (ks : List Nat) : Bool := io.all fun p => Nat.beq (kd ks p) (kd kd0 p)
mutual
/-- the kinds behind a statement; some none: there is no behind -/
def wfS : S → List Nat → Option (List Nat) → Option (Option (List Nat))
  | .asg i d e, ks, _ => if newE T ks e d && okSlot io ks i then some (some (ks.set i d)) else none
  | .mv i j, ks, _ => if okSlot io ks i && okSlot io ks j && !Nat.beq i j && !Nat.beq (kd ks j) 3 then some (some ((ks.set j 0).set i (kd ks j))) else none
  | .fz i, ks, _ => if okSlot io ks i && !Nat.beq (kd ks i) 3 then some (some (ks.set i 0)) else none
  | .asgT is e, ks, _ => if wfE T ks e && okSlots io ks is then some (some (setK ks is (is.map fun _ => 0))) else none
  | .par is ds es, ks, _ => if newL T ks es ds && okSlots io ks is && Nat.beq is.length es.length then some (some (setK ks is ds)) else none
  | .sub1 i ix v, ks, _ => if Nat.ble 1 (kd ks i) && !Nat.beq (kd ks i) 3 && newE T ks v (kd ks i - 1) && wfE T ks ix && !(muts ix).contains i then some (some ks) else none
  | .sub2 i ix iy v, ks, _ => if Nat.beq (kd ks i) 2 && newE T ks v 0 && wfE T ks ix && wfE T ks iy && !(muts ix).contains i && !(muts iy).contains i then some (some ks) else none
  | .app i v, ks, _ => if Nat.ble 1 (kd ks i) && !Nat.beq (kd ks i) 3 && newE T ks v (kd ks i - 1) && !(muts v).contains i then some (some ks) else none
  | .app1 i ix v, ks, _ => if Nat.beq (kd ks i) 2 && newE T ks v 0 && wfE T ks ix && !(muts ix).contains i && !(muts v).contains i then some (some ks) else none
  | .ex e, ks, _ => if wfE T ks e then some (some ks) else none
  | .ite c a b, ks, kb => if wfE T ks c then (match wfSs a ks kb, wfSs b ks kb with
    | some (some k1), some (some k2) => if eqK k1 k2 then some (some k1) else none
    | some none, some k2 => some k2
    | some k1, some none => some k1
    | _, _ => none) else none
  | .whl _ c b, ks, _ => if wfE T ks c then (match wfSs b ks (some ks) with
    | some (some k1) => if eqK k1 ks then some (some ks) else none
    | some none => some (some ks)
    | none => none) else none
  | .loop t _ srcs b, ks, _ => if wfL T ks srcs && flatL ks srcs && seqL ks srcs && okSlots io ks t.slots && zeros ks t.slots && awayL ks srcs (t.slots ++ mutsSs b) then (match wfSs b ks (some ks) with
    | some (some k1) => if eqK k1 ks then some (some ks) else none
    | some none => some (some ks)
    | none => none) else none
  | .ret e, ks, _ => if ioK kd0 io ks && (newE T ks e fr0 || retVar fr0 io ks e) then some none else none
  | .retN, ks, _ => if ioK kd0 io ks then some none else none
  | .brk, ks, kb => match kb with
    | some k => if eqK ks k then some none else none
    | none => none
  | .pass, ks, _ => some (some ks)
  | .raise _ _, _, _ => some none
  | .kill is, ks, _ => if okSlots io ks is && is.all (fun i => !Nat.beq (kd ks i) 3) then some (some (clr ks is)) else none
def wfSs : List S → List Nat → Option (List Nat) → Option (Option (List Nat))
  | [], ks, _ => some (some ks)
  | a :: r, ks, kb => match wfS a ks kb with
    | some (some k1) => wfSs r k1 kb
    | x => x
end
end
end Mp
set_option Elab.async false
set_option linter.all false
set_option maxRecDepth 10000
/-! # Mp: statements are what they do. -/
namespace Mp
open PySem PySem.Spec PyProof.Rows L2

theorem eqK_eq : ∀ {a b : List Nat}, eqK a b = true → a = b
  | [], [], _ => rfl
  | [], _ :: _, h => by cases h
  | _ :: _, [], h => by cases h
  | a :: r, b :: q, h => by
    unfold eqK at h
    simp only [Bool.and_eq_true] at h
    rw [Nat.eq_of_beq_eq_true h.1, eqK_eq h.2]
/-- from state to state: M the slots that may have changed, io those that are handed back -/
structure Mv (io M : List Nat) (H : Hp) (O : Own) (σ : L2.St) (H' : Hp) (O' : Own) (σ' : L2.St) : Prop where
  ext : ∀ a o, H a = some o → (∀ i, i ∈ M → a ∉ O i) → H' a = some o
  dom : ∀ a, H' a = none → H a = none
  own : ∀ i, i ∉ M → O' i = O i
  new : ∀ i a, a ∈ O' i → (∃ j, a ∈ O j ∧ (i = j ∨ (i ∈ M ∧ j ∈ M ∧ i ∉ io ∧ j ∉ io))) ∨ H a = none
  io : ∀ p, p ∈ io → σ'[p]? = σ[p]?
  len : σ'.length = σ.length
section
variable {io M M1 M2 : List Nat} {H H1 H2 : Hp} {O O1 O2 : Own} {σ σ1 σ2 : L2.St} {K : PySem.W.Frag} {G : Addr → Prop} {ks : List Nat} {env env1 : Env}
theorem Mv.refl : Mv io M H O σ H O σ := ⟨fun _ _ h _ => h, fun _ h => h, fun _ _ => rfl, fun i _ h => .inl ⟨i, h, .inl rfl⟩, fun _ _ => rfl, rfl⟩
theorem Mv.mono (m : Mv io M H O σ H1 O1 σ1) (h : ∀ i, i ∈ M → i ∈ M2) : Mv io M2 H O σ H1 O1 σ1 :=
  ⟨fun a o e n => m.ext a o e fun i hi => n i (h i hi), m.dom, fun i n => m.own i fun z => n (h i z), fun i a q => (m.new i a q).imp (fun ⟨j, h1, h2⟩ => ⟨j, h1, h2.imp id fun ⟨x1, x2, x3⟩ => ⟨h _ x1, h _ x2, x3⟩⟩) id, m.io, m.len⟩
theorem Mv.trans (p : Mv io M H O σ H1 O1 σ1) (q : Mv io M H1 O1 σ1 H2 O2 σ2) : Mv io M H O σ H2 O2 σ2 where
  ext := fun a o e n => q.ext a o (p.ext a o e n) fun i hi z => by
    rcases p.new i a z with ⟨j, h1, h2⟩ | h
    · rcases h2 with h2 | h2
      · subst h2; exact n i hi h1
      · exact n j h2.2.1 h1
    · rw [e] at h; cases h
  dom := fun a h => p.dom a (q.dom a h)
  own := fun i n => (q.own i n).trans (p.own i n)
  new := fun i a h => by
    rcases q.new i a h with ⟨j, h1, h2⟩ | h
    · rcases p.new j a h1 with ⟨k, h3, h4⟩ | h
      · refine .inl ⟨k, h3, ?_⟩
        rcases h2 with h2 | h2
        · subst h2; exact h4
        · rcases h4 with h4 | h4
          · subst h4; exact .inr h2
          · exact .inr ⟨h2.1, h4.2.1, h2.2.2.1, h4.2.2.2⟩
      · exact .inr h
    · exact .inr (p.dom a h)
  io := fun p' h => (q.io p' h).trans (p.io p' h)
  len := q.len.trans p.len
theorem Mv.of (p : Pst K H G ks O M env1 σ H1 O1) : Mv io M H O σ H1 O1 σ := ⟨p.ext, p.dom, p.own, fun i a h => (p.new i a h).imp (fun h => ⟨i, h, .inl rfl⟩) id, fun _ _ => rfl, rfl⟩
/-- a slot is bound to a new value -/
theorem kd_set (ks : List Nat) (i d j : Nat) : kd (ks.set i d) j = if j = i ∧ i < ks.length then d else kd ks j := by
  unfold kd
  rw [List.getD_eq_getElem?_getD, List.getD_eq_getElem?_getD, List.getElem?_set]
  by_cases h : j = i
  · subst h
    by_cases h2 : j < ks.length
    · simp [h2]
    · simp [h2]
  · rw [if_neg (fun e => h e.symm), if_neg (fun e => h e.1)]
theorem Stt.put1 {i d : Nat} {x : Val} {v : V} {Ow : List Addr} (S : Stt K H (GX G Ow) ks env σ O) (hi : i < ks.length) (h3 : d ≠ 3) (h : OR K H (AA (GX G Ow) O) d x v Ow) (nd : Ow.Nodup) (ho : ∀ a, a ∈ Ow → G a ∧ (∀ j, a ∉ O j) ∧ H a ≠ none) :
    Stt K H G (ks.set i d) (Mp.st env i x) (σ.set i (some v)) (if i < env.length then ow O i Ow else O) := by
  by_cases hl : i < env.length
  · rw [if_pos hl]
    have aa : ∀ a, H a ≠ none → AA (GX G Ow) O a → AA G (ow O i Ow) a := fun a _ h => ⟨h.1.1, fun j z => by
      unfold ow at z
      split at z
      · exact h.1.2 z
      · exact h.2 j z⟩
    refine ⟨fun j hj => ?_, fun j hj => ?_, fun j => ?_, fun j k a hj hk => ?_, fun j a hj => ?_, fun a ha => (S.fresh a ha).1, by rw [st_len, List.length_set]; exact S.len⟩
    · rw [gt_st] at hj ⊢
      rw [kd_set]
      by_cases e : j = i
      · subst e
        rw [if_pos ⟨rfl, hi⟩, if_pos ⟨rfl, hl⟩, ow_same]
        have := S.len
        exact ⟨v, List.getElem?_set_self (by omega), .inr ⟨h3, h.mono aa⟩⟩
      · rw [if_neg (fun z => e z.1)] at hj
        rw [if_neg (fun z => e z.1), if_neg (fun z => e z.1), ow_ne O _ e]
        obtain ⟨w, h1, h2⟩ := S.slot j hj
        exact ⟨w, by rw [List.getElem?_set_ne (Ne.symm e)]; exact h1, h2.mono aa⟩
    · rw [gt_st] at hj
      by_cases e : j = i
      · subst e
        rw [if_pos ⟨rfl, hl⟩] at hj
        exact absurd hj h.undef
      · rw [if_neg (fun z => e z.1)] at hj
        rw [ow_ne O _ e]
        exact S.emp j hj
    · unfold ow
      split
      · exact nd
      · exact S.nd j
    · unfold ow at hj hk
      split at hj <;> split at hk
      · rename_i e1 e2
        rw [e1, e2]
      · exact absurd hk ((ho a hj).2.1 k)
      · exact absurd hj ((ho a hk).2.1 j)
      · exact S.dj j k a hj hk
    · unfold ow at hj
      split at hj
      · exact (ho a hj).1
      · exact (S.own j a hj).1
  · rw [if_neg hl]
    have S' := S.mono fun a h => h.1
    refine ⟨fun j hj => ?_, fun j hj => ?_, S'.nd, S'.dj, S'.own, S'.fresh, by rw [st_len, List.length_set]; exact S.len⟩
    · rw [gt_st, if_neg (fun z => hl z.2)] at hj ⊢
      obtain ⟨w, h1, h2⟩ := S'.slot j hj
      have hjl := gt_lt hj
      have e : j ≠ i := fun e => hl (by rw [← e]; exact hjl)
      rw [kd_set, if_neg (fun z => e z.1)]
      exact ⟨w, by rw [List.getElem?_set_ne (Ne.symm e)]; exact h1, h2⟩
    · rw [gt_st, if_neg (fun z => hl z.2)] at hj
      exact S'.emp j hj
end

/-! ### what is wanted behind a statement -/
def GooO (P : Par) (kd0 : List Nat) (fr0 : Nat) (io M : List Nat) (kn kb : Option (List Nat)) (D : Ends) (σ : L2.St) (H : Hp) (G : Addr → Prop) (O : Own) : Mp.O → Prop
  | .nx e => match kn with
    | none => True
    | some k => ∀ σ' H' O', Mv io M H O σ H' O' σ' → Stt P.K H' G k e σ' O' → D.nx σ' H'
  | .brk e => match kb with
    | none => True
    | some k => ∀ σ' H' O', Mv io M H O σ H' O' σ' → Stt P.K H' G k e σ' O' → D.bk σ' H'
  | .ret v e => ∀ ksr env' σ' H' O' Ow w, Mv io M H O σ H' O' σ' → Stt P.K H' (GX G Ow) ksr env' σ' O' → (∀ p, p ∈ io → gt env' p = gt e p ∧ kd ksr p = kd kd0 p) → OR P.K H' (AA (GX G Ow) O') fr0 v w Ow → Ow.Nodup →
      (∀ a, a ∈ Ow → ((∃ j, j ∉ io ∧ a ∈ O j) ∨ H a = none) ∧ G a ∧ ∀ i, a ∉ O' i) → D.rt w H'
  | .exc _ _ => False
  | .bad => False
section
variable {P : Par} {kd0 : List Nat} {fr0 : Nat} {io M M1 M2 : List Nat} {kn kb : Option (List Nat)} {D : Ends} {σ σ1 : L2.St} {H H1 : Hp} {G : Addr → Prop} {O O1 : Own} {ks : List Nat} {env : Env}
theorem GooO.shift {r : Mp.O} (m : Mv io M1 H O σ H1 O1 σ1) (h1 : ∀ i, i ∈ M1 → i ∈ M) (h2 : ∀ i, i ∈ M2 → i ∈ M) (g : GooO P kd0 fr0 io M kn kb D σ H G O r) : GooO P kd0 fr0 io M2 kn kb D σ1 H1 G O1 r := by
  have m' := m.mono h1
  cases r with
  | nx e =>
    cases kn with
    | none => exact True.intro
    | some k => exact fun σ' H' O' q S => g σ' H' O' (m'.trans (q.mono h2)) S
  | brk e =>
    cases kb with
    | none => exact True.intro
    | some k => exact fun σ' H' O' q S => g σ' H' O' (m'.trans (q.mono h2)) S
  | ret v e =>
    intro ksr env' σ' H' O' Ow w q S hp ho nd ha
    refine g ksr env' σ' H' O' Ow w (m'.trans (q.mono h2)) S hp ho nd fun a z => ⟨?_, (ha a z).2⟩
    rcases (ha a z).1 with ⟨j, hj, hm⟩ | h
    · rcases m.new j a hm with ⟨k, h3, h4⟩ | h
      · rcases h4 with h4 | h4
        · subst h4; exact .inl ⟨j, hj, h3⟩
        · exact .inl ⟨k, h4.2.2.2, h3⟩
      · exact .inr h
    · exact .inr (m.dom a h)
  | exc x e => exact g
  | bad => exact g
/-- other ends -/
theorem GooO.ends {r : Mp.O} {D' : Ends} {kn' kb' : Option (List Nat)} (g : GooO P kd0 fr0 io M kn kb D σ H G O r) (hn : ∀ e k, r = .nx e → kn' = some k → ∀ σ' H' O', Mv io M H O σ H' O' σ' → Stt P.K H' G k e σ' O' → D'.nx σ' H') (hb : ∀ e k, r = .brk e → kb' = some k → ∀ σ' H' O', Mv io M H O σ H' O' σ' → Stt P.K H' G k e σ' O' → D'.bk σ' H') (hr : D'.rt = D.rt) :
    GooO P kd0 fr0 io M kn' kb' D' σ H G O r := by
  cases r with
  | nx e =>
    cases kn' with
    | none => exact True.intro
    | some k => exact hn e k rfl rfl
  | brk e =>
    cases kb' with
    | none => exact True.intro
    | some k => exact hb e k rfl rfl
  | ret v e =>
    intro ksr env' σ' H' O' Ow w q S hp ho nd ha
    rw [hr]
    exact g ksr env' σ' H' O' Ow w q S hp ho nd ha
  | exc x e => exact g
  | bad => exact g
end
/-- a statement's reading -/
def rdS (P : Par) (kd0 : List Nat) (fr0 : Nat) (io ks : List Nat) (kn kb : Option (List Nat)) (m : S) : TS := fun D σ H => ∃ G O env, Stt P.K H G ks env σ O ∧ GooO P kd0 fr0 io (mutsS m) kn kb D σ H G O (ex P.C m env)
def rdSs (P : Par) (kd0 : List Nat) (fr0 : Nat) (io ks : List Nat) (kn kb : Option (List Nat)) (m : List S) : TS := fun D σ H => ∃ G O env, Stt P.K H G ks env σ O ∧ GooO P kd0 fr0 io (mutsSs m) kn kb D σ H G O (exs P.C m env)
structure CtxS (T : Tab) (N : List Str) (k : Nat) (X : Cx) (P : Par) (s : Sx) : Prop where
  cx : Ctx T N k X P s
  hp : PassesOwn (model X.prog X.w) X.A X.env X.xe
  kf : X.env.scope.kind = .function
def SndS (T : Tab) (N : List Str) (k : Nat) (kd0 : List Nat) (fr0 : Nat) (io : List Nat) (m : S) : Prop := ∀ (X : Cx) (P : Par) (s : Sx) (ks : List Nat) (kn kb : Option (List Nat)) (st : Stmt), CtxS T N k X P s → chkS T N m s st = true → wfS T kd0 fr0 io m ks kb = some kn → PS X st (rdS P kd0 fr0 io ks kn kb m)
def SndSs (T : Tab) (N : List Str) (k : Nat) (kd0 : List Nat) (fr0 : Nat) (io : List Nat) (m : List S) : Prop := ∀ (X : Cx) (P : Par) (s : Sx) (ks : List Nat) (kn kb : Option (List Nat)) (st : List Stmt), CtxS T N k X P s → chkSs T N m s st = true → wfSs T kd0 fr0 io m ks kb = some kn → PSs X st (rdSs P kd0 fr0 io ks kn kb m)
theorem _root_.L2.PS.imp {X : Cx} {st : Stmt} {t t' : TS} (h : PS X st t) (i : ∀ D σ H, t' D σ H → t D σ H) : PS X st t' := ⟨fun pins s σ H D I q => h.run pins s σ H D I (i D σ H q)⟩
theorem _root_.L2.PSs.imp {X : Cx} {st : List Stmt} {t t' : TS} (h : PSs X st t) (i : ∀ D σ H, t' D σ H → t D σ H) : PSs X st t' := ⟨fun pins s σ H D I q => h.run pins s σ H D I (i D σ H q)⟩
section
variable {T : Tab} {N : List Str} {k : Nat} {X : Cx} {P : Par} {s : Sx} {ks : List Nat} {kd0 : List Nat} {fr0 : Nat} {io : List Nat} {kn kb : Option (List Nat)} {e : Expr} {m : E}
/-- an expression in a statement: .. and what follows -/
theorem bindO_F {σ : L2.St} {H : Hp} {G : Addr → Prop} {O : Own} {M : List Nat} {D : Ends} {env : Env} {kk : Val → Env → Mp.O} {d : Nat} {Q : VK} (S : Stt P.K H G ks env σ O) (hM : ∀ i, i ∈ muts m → i ∈ M) (g : GooO P kd0 fr0 io M kn kb D σ H G O (bindO (ev P.C m env) kk))
    (hk : ∀ x e1 v H1 O1, Pst P.K H G ks O (muts m) e1 σ H1 O1 → NewV P.K H H1 G ks e1 σ O1 d x v → GooO P kd0 fr0 io M kn kb D σ H1 G O1 (kk x e1) → GooO P kd0 fr0 io M kn kb D σ H G O (kk x e1) → Q v H1) : rdF P ks m d σ H Q := by
  refine ⟨G, O, env, S, ?_⟩
  cases h : ev P.C m env with
  | ok x e1 =>
    rw [h] at g
    exact fun H1 O1 p v n => hk x e1 v H1 O1 p n (GooO.shift (Mv.of p) hM (fun _ h => h) g) g
  | exc x e1 =>
    rw [h] at g
    exact g.elim
  | bad =>
    rw [h] at g
    exact g
theorem bindO_P {σ : L2.St} {H : Hp} {G : Addr → Prop} {O : Own} {M : List Nat} {D : Ends} {env : Env} {kk : Val → Env → Mp.O} {Q : VK} (S : Stt P.K H G ks env σ O) (hM : ∀ i, i ∈ muts m → i ∈ M) (g : GooO P kd0 fr0 io M kn kb D σ H G O (bindO (ev P.C m env) kk))
    (hk : ∀ x e1 v H1 O1, Pst P.K H G ks O (muts m) e1 σ H1 O1 → Opr P.K H1 G O1 (ud ks m) (root m) x v → GooO P kd0 fr0 io M kn kb D σ H1 G O1 (kk x e1) → Q v H1) : rdP P ks m σ H Q := by
  refine ⟨G, O, env, S, ?_⟩
  cases h : ev P.C m env with
  | ok x e1 =>
    rw [h] at g
    exact fun H1 O1 p v n => hk x e1 v H1 O1 p n (GooO.shift (Mv.of p) hM (fun _ h => h) g)
  | exc x e1 =>
    rw [h] at g
    exact g.elim
  | bad =>
    rw [h] at g
    exact g
theorem bindO_T {σ : L2.St} {H : Hp} {G : Addr → Prop} {O : Own} {M : List Nat} {D : Ends} {env : Env} {kk : Bool → Env → Mp.O} {Q : Bool → Hp → Prop} (S : Stt P.K H G ks env σ O) (hM : ∀ i, i ∈ muts m → i ∈ M) (g : GooO P kd0 fr0 io M kn kb D σ H G O (bindOB (ev P.C m env) kk))
    (hk : ∀ c e1 H1 O1, Pst P.K H G ks O (muts m) e1 σ H1 O1 → GooO P kd0 fr0 io M kn kb D σ H1 G O1 (kk c e1) → Q c H1) : rdT P ks m σ H Q := by
  refine ⟨G, O, env, S, ?_⟩
  cases h : ev P.C m env with
  | ok x e1 =>
    rw [h] at g
    cases x with
    | bl c => exact fun H1 O1 p => ⟨c, rfl, hk c e1 H1 O1 p (GooO.shift (Mv.of p) hM (fun _ h => h) g)⟩
    | _ => exact g.elim
  | exc x e1 =>
    rw [h] at g
    exact g.elim
  | bad =>
    rw [h] at g
    exact g
/-- an expression that may be had so deep new -/
theorem newE_pe {d : Nat} (cx : Ctx T N k X P s) (hc : chkE T N m s e = true) (hn : newE T ks m d = true) : PE X e (rdF P ks m d) := by
  unfold newE at hn
  simp only [Bool.and_eq_true] at hn
  have sd := sndE T N k m X P s ks e cx hc hn.1
  have h2 := hn.2
  cases d with
  | zero => exact pe_of0 sd.pe h2
  | succ d =>
    have h2 : (Nat.ble (d + 1) (fr T ks m) && !Nat.beq (d + 1) 3) = true := h2
    exact sd.pf (d + 1) (Nat.succ_pos _) (Nat.le_of_ble_eq_true (Bool.and_eq_true_iff.mp h2).1)
theorem newE_3 {d : Nat} (hn : newE T ks m d = true) : d ≠ 3 := by
  intro e
  subst e
  unfold newE at hn
  simp only [Bool.and_eq_true] at hn
  have h2 : (Nat.ble 3 (fr T ks m) && !Nat.beq 3 3) = true := hn.2
  simp at h2
theorem okSlot_of {i : Nat} (h : okSlot io ks i = true) : i < ks.length ∧ i ∉ io := by
  unfold okSlot at h
  simp only [Bool.and_eq_true, Bool.not_eq_true'] at h
  refine ⟨Nat.le_of_ble_eq_true h.1, fun z => ?_⟩
  rw [List.contains_iff_mem.mpr z] at h
  cases h.2
end
end Mp
set_option Elab.async false
set_option linter.all false
set_option maxRecDepth 10000
/-! # Mp: the statements, one by one. -/
namespace Mp
open PySem PySem.Spec PyProof.Rows L2
section
variable {io M M1 M2 : List Nat} {H H1 H2 : Hp} {O O1 O2 : Own} {σ σ1 σ2 : L2.St} {K : PySem.W.Frag} {G : Addr → Prop} {ks : List Nat} {env env1 : Env}
theorem Mv.binds {O' : Own} {σ' : L2.St} (p : Mv io M1 H O σ H1 O1 σ1) (h1 : ∀ i, i ∈ M1 → i ∈ M) (hO : ∀ j, O' j = O1 j ∨ (j ∈ M ∧ ∀ a, a ∈ O' j → H a = none)) (hs : ∀ p, p ∈ io → σ'[p]? = σ1[p]?) (hl : σ'.length = σ1.length) : Mv io M H O σ H1 O' σ' := by
  have q := p.mono h1
  refine ⟨q.ext, q.dom, fun i hi => ?_, fun i a ha => ?_, fun p' h => (hs p' h).trans (q.io p' h), hl.trans q.len⟩
  · rcases hO i with e | ⟨m, _⟩
    · rw [e]; exact q.own i hi
    · exact absurd m hi
  · rcases hO i with e | ⟨m, h⟩
    · rw [e] at ha; exact q.new i a ha
    · exact .inr (h a ha)
/-- a slot's value is taken out -/
theorem Stt.takeout {j : Nat} {v : V} (S : Stt K H G ks env σ O) (hj : j < ks.length) (h3 : kd ks j ≠ 3) (hx : gt env j ≠ .undef) (hv : σ[j]? = some (some v)) :
    Stt K H (GX G (O j)) (ks.set j 0) (Mp.st env j .undef) σ (ow O j []) ∧ OR K H (AA (GX G (O j)) (ow O j [])) (kd ks j) (gt env j) v (O j) := by
  have aa : ∀ a, H a ≠ none → AA G O a → AA (GX G (O j)) (ow O j []) a := fun a _ h => ⟨⟨h.1, h.2 j⟩, fun k z => by
    unfold ow at z
    split at z
    · cases z
    · exact h.2 k z⟩
  have hl := gt_lt hx
  refine ⟨⟨fun i hi => ?_, fun i hi => ?_, fun i => ?_, fun i k a h1 h2 => ?_, fun i a h => ?_, fun a h => ⟨S.fresh a h, S.out h j⟩, by rw [st_len]; exact S.len⟩, ?_⟩
  · rw [gt_st] at hi ⊢
    by_cases e : i = j
    · rw [if_pos ⟨e, hl⟩] at hi
      exact absurd rfl hi
    · rw [if_neg (fun z => e z.1)] at hi
      rw [if_neg (fun z => e z.1), kd_set, if_neg (fun z => e z.1), ow_ne O _ e]
      obtain ⟨w, h1, h2⟩ := S.slot i hi
      exact ⟨w, h1, h2.mono aa⟩
  · by_cases e : i = j
    · rw [e, ow_same]
    · rw [gt_st, if_neg (fun z => e z.1)] at hi
      rw [ow_ne O _ e]
      exact S.emp i hi
  · unfold ow
    split
    · exact .nil
    · exact S.nd i
  · unfold ow at h1 h2
    split at h1
    · cases h1
    · split at h2
      · cases h2
      · exact S.dj i k a h1 h2
  · unfold ow at h
    split at h
    · cases h
    · rename_i e
      exact ⟨S.own i a h, fun z => e (S.dj i j a h z)⟩
  · obtain ⟨w, h1, h2⟩ := S.slot j hx
    rw [hv] at h1
    cases h1
    rcases h2 with ⟨e, _⟩ | ⟨_, h2⟩
    · exact absurd e h3
    · exact h2.mono aa
/-- a slot's ownership is given up -/
theorem Stt.fz {j : Nat} (S : Stt K H G ks env σ O) (hj : j < ks.length) (h3 : kd ks j ≠ 3) : Stt K H G (ks.set j 0) env σ (ow O j []) := by
  have aa : ∀ a, H a ≠ none → AA G O a → AA G (ow O j []) a := fun a _ h => ⟨h.1, fun k z => by
    unfold ow at z
    split at z
    · cases z
    · exact h.2 k z⟩
  refine ⟨fun i hi => ?_, fun i hi => ?_, fun i => ?_, fun i k a h1 h2 => ?_, fun i a h => ?_, S.fresh, S.len⟩
  · obtain ⟨w, h1, h2⟩ := S.slot i hi
    rw [kd_set]
    by_cases e : i = j
    · subst e
      rw [if_pos ⟨rfl, hj⟩, ow_same]
      rcases h2 with ⟨e, _⟩ | ⟨_, h2⟩
      · exact absurd e h3
      · refine ⟨w, h1, .inr ⟨by decide, h2.free aa fun a ha => ⟨S.own i a ha, fun k z => ?_⟩, rfl⟩⟩
        unfold ow at z
        split at z
        · cases z
        · rename_i ne
          exact ne (S.dj k i a z ha)
    · rw [if_neg (fun z => e z.1), ow_ne O _ e]
      exact ⟨w, h1, h2.mono aa⟩
  · by_cases e : i = j
    · rw [e, ow_same]
    · rw [ow_ne O _ e]
      exact S.emp i hi
  · unfold ow
    split
    · exact .nil
    · exact S.nd i
  · unfold ow at h1 h2
    split at h1
    · cases h1
    · split at h2
      · cases h2
      · exact S.dj i k a h1 h2
  · unfold ow at h
    split at h
    · cases h
    · exact S.own i a h
theorem set0_kd {ks : List Nat} {j : Nat} : kd (ks.set j 0) j = 0 := by
  rw [kd_set]
  by_cases h : j < ks.length
  · rw [if_pos ⟨rfl, h⟩]
  · rw [if_neg (fun z => h z.2)]
    unfold kd
    rw [List.getD_eq_getElem?_getD, List.getElem?_eq_none (by omega)]
    rfl
theorem Stt.kill1 {j : Nat} (S : Stt K H G ks env σ O) (hj : j < ks.length) (h3 : kd ks j ≠ 3) : Stt K H G (ks.set j 0) (Mp.st env j .undef) σ (ow O j []) := (S.fz hj h3).kill set0_kd
theorem clr_ok : ∀ {is : List Nat} {ks : List Nat} {env : Env} {O : Own}, Stt K H G ks env σ O → okSlots io ks is = true → (is.all fun i => !Nat.beq (kd ks i) 3) = true → ∃ O', Stt K H G (clr ks is) (kills is env) σ O' ∧ ∀ j, O' j = O j ∨ (j ∈ is ∧ O' j = [])
  | [], ks, env, O, S, _, _ => ⟨O, S, fun _ => .inl rfl⟩
  | i :: is, ks, env, O, S, ok, h3 => by
    unfold okSlots at ok
    simp only [Bool.and_eq_true] at ok
    rw [List.all_cons] at h3
    simp only [Bool.and_eq_true] at h3
    have hi := okSlot_of ok.1
    have k3 : kd ks i ≠ 3 := fun e => by
      have := h3.1
      rw [e] at this
      cases this
    have S1 := S.kill1 hi.1 k3
    have ok2 : okSlots io (ks.set i 0) is = true := by
      have : ∀ l : List Nat, okSlots io ks l = true → okSlots io (ks.set i 0) l = true := by
        intro l
        induction l with
        | nil => intro _; rfl
        | cons a r ih =>
          intro h
          unfold okSlots okSlot at h ⊢
          simp only [Bool.and_eq_true] at h ⊢
          rw [List.length_set]
          exact ⟨h.1, ih h.2⟩
      exact this is ok.2
    have h32 : (is.all fun j => !Nat.beq (kd (ks.set i 0) j) 3) = true := by
      rw [List.all_eq_true] at h3 ⊢
      intro j hj
      rw [kd_set]
      split
      · rfl
      · exact h3.2 j hj
    obtain ⟨O', S', hO⟩ := clr_ok S1 ok2 h32
    refine ⟨O', S', fun j => ?_⟩
    rcases hO j with e | ⟨m, e⟩
    · by_cases ej : j = i
      · exact .inr ⟨by rw [ej]; exact List.mem_cons_self, by rw [e, ej, ow_same]⟩
      · exact .inl (by rw [e, ow_ne O _ ej])
    · exact .inr ⟨List.mem_cons_of_mem _ m, e⟩
end
section
variable {T : Tab} {N : List Str} {k : Nat} {X : Cx} {P : Par} {s : Sx} {ks : List Nat} {kd0 : List Nat} {fr0 : Nat} {io : List Nat} {kn kb : Option (List Nat)} {e : Expr} {m : E}
theorem noComp_sw {v : Expr} {t : Option Expr} {l : Nat} {env : PySem.Env} (h : noComp v = true) : swapsWith v t l env = pure false := by
  cases v <;> first | rfl | cases h
theorem sole_sw {v : Expr} {t : Expr} {l : Nat} {env : PySem.Env} (h : noComp v = true) : swapsWithSole [t] v l env = pure false := noComp_sw h
theorem rdF_0 {d : Nat} {σ : L2.St} {H : Hp} {Q : VK} (h : rdF P ks m 0 σ H Q) : rdF P ks m d σ H Q := by
  obtain ⟨G, O, env, S, g⟩ := h
  exact ⟨G, O, env, S, g.imp (fun _ h => h) fun x e H' O' p t v n => t v (NewV.of0 p.st n.vr)⟩
/-- name = e, a comprehension too -/
theorem ps_asgE {i d : Nat} {x : Str} {v : Expr} {p pos : Pos} (cx : CtxS T N k X P s) (h1 : nameAt N i x = true) (h2 : isLoc s x = true) (hc : chkE T N m s v = true) (hn : newE T ks m d = true) : PS X (.Assign [.Name x p] v pos) (tAsg (rdF P ks m d) (gName i)) := by
  have nd : X.N.Nodup := by rw [cx.cx.hN]; exact cx.cx.nd
  obtain ⟨l1, l2⟩ := isLoc_of cx.cx h2
  have plain : ∀ (hs : swapsWith v (some (.Name x p)) pos.line X.env = pure false), PS X (.Assign [.Name x p] v pos) (tAsg (rdF P ks m d) (gName i)) := fun hs => ps_set nd (nameAt_of cx.cx h1) l1 (newE_pe cx.cx hc hn) hs l2
  cases hv : noComp v with
  | true => exact plain (noComp_sw hv)
  | false =>
    cases v <;> first | (cases hv; done) | skip
    · rename_i elt gs scope cpos
      have hsw : swapsWith (.ListComp elt gs scope cpos) (some (.Name x p)) pos.line X.env = pure (X.env.blockKind == .function && X.env.kindOf x == some .local && p.line == cpos.line && !(scope.names.any fun (n, k) => n == x && (k == .local || k == .cell))) := rfl
      cases hb : (X.env.blockKind == .function && X.env.kindOf x == some .local && p.line == cpos.line && !(scope.names.any fun (n, k) => n == x && (k == .local || k == .cell))) with
      | false => rw [hb] at hsw; exact plain hsw
      | true =>
        rw [hb] at hsw
        simp only [Bool.and_eq_true] at hb
        have hy : X.env.scope.names.lookup x = some .local := eq_of_beq hb.1.1.2
        cases m <;> first | (simp [chkE] at hc; done) | skip
        · rename_i b args
          cases b <;> simp [chkE] at hc
        · rename_i t kk srcs cond el
          have hc' := hc
          unfold chkE at hc'
          split at hc'
          · rename_i x0 tg iter ifs sc0 p0 heq
            cases heq
            simp only [Bool.and_eq_true] at hc'
            obtain ⟨⟨⟨⟨⟨⟨c1, c2⟩, c3⟩, c4⟩, c5⟩, c6⟩, c7⟩ := hc'
            have hw : wfE T ks (.comp t kk srcs cond el) = true := by
              unfold newE at hn
              exact (Bool.and_eq_true_iff.mp hn).1
            have hw' := hw
            unfold wfE at hw'
            simp only [Bool.and_eq_true] at hw'
            obtain ⟨⟨⟨⟨⟨⟨⟨⟨w1, w2⟩, w3⟩, w4⟩, w5⟩, w6⟩, w7⟩, w8⟩, w9⟩ := hw'
            have ok : BlkOk X.N X.env.scope scope (ownOf N t) := by rw [cx.cx.hN, cx.cx.sc]; exact blkOk_by c1
            have hi := pi_src (t := t) cx.cx (fun a _ => sndE T N k a) c3 c5 w1 w2 w3
            have key : ∀ d', d' + 1 ≠ 3 → (d' = 0 ∨ d' ≤ fr T ks el) → (d = 0 ∨ d = d' + 1) → PS X (.Assign [.Name x p] (.ListComp elt [⟨tg, iter, ifs, 0⟩] scope cpos) pos) (tAsg (rdF P ks (.comp t kk srcs cond el) d) (gName i)) := fun d' hd hf hdd => by
              refine (ps_setLc (spos := pos) (py := p) (g := rdG X.K t) (tt := rdC { P with W := fun _ _ _ _ => False } ks cond) (te := rdF { P with W := fun _ _ _ _ => False } ks el d') cx.cx.calm nd (nameAt_of cx.cx h1) hy hsw hi ok (fun s' H' C cl fp => pg_tgt (cx.cx.blk s' H' scope cl C fp) c5)
                (fun s' H' C cl fp => pts_of (fun a _ => sndE T N k a) (cx.cx.blk s' H' scope cl C fp) c6 c4 w7) (fun s' H' C cl fp => ?_) (noSet_fold c2)).imp fun D σ H h => ?_
              · have sd := sndE T N k el _ _ _ ks _ (cx.cx.blk s' H' scope cl C fp) c7 w8
                cases d' with
                | zero => exact pe_of0 sd.pe w9
                | succ d' => exact sd.pf (d' + 1) (Nat.succ_pos _) (by omega)
              · have h : rdF P ks (.comp t kk srcs cond el) d σ H (fun y H1 => gName i y σ H1 D.nx) := h
                have h : rdF P ks (.comp t kk srcs cond el) (d' + 1) σ H (fun y H1 => gName i y σ H1 D.nx) := by
                  rcases hdd with e | e
                  · subst e; exact rdF_0 h
                  · subst e; exact h
                have q := comp_rd hw hd h
                show tLc _ _ _ _ _ σ H _
                rw [ownOf_slots, cx.cx.K]
                exact q
            cases d with
            | zero => exact key 0 (by decide) (.inl rfl) (.inl rfl)
            | succ d =>
              unfold newE at hn
              have h2' : (Nat.ble (d + 1) (fr T ks (.comp t kk srcs cond el)) && !Nat.beq (d + 1) 3) = true := (Bool.and_eq_true_iff.mp hn).2
              have e : fr T ks (.comp t kk srcs cond el) = 1 + min 1 (fr T ks el) := rfl
              have h2 := Nat.le_of_ble_eq_true (Bool.and_eq_true_iff.mp h2').1
              rw [e] at h2
              exact key d (by omega) (by omega) (.inr rfl)
          · cases hc'
    · cases m <;> first | (simp [chkE] at hc; done) | skip
      rename_i b args
      cases b <;> simp [chkE] at hc
    · cases m <;> first | (simp [chkE] at hc; done) | skip
      rename_i b args
      cases b <;> simp [chkE] at hc
theorem snds_asg {i d : Nat} {m : E} : SndS T N k kd0 fr0 io (.asg i d m) := by
  intro X P s ks kn kb st cx hc hw
  unfold chkS at hc
  split at hc
  · rename_i x p v pos
    simp only [Bool.and_eq_true] at hc
    unfold wfS at hw
    split at hw
    · rename_i hok
      cases hw
      simp only [Bool.and_eq_true] at hok
      have hi := okSlot_of hok.2
      refine (ps_asgE cx hc.1.1 hc.1.2 hc.2 hok.1).imp fun D σ H ⟨G, O, env, S, g⟩ => ?_
      refine bindO_F (M := mutsS (.asg i d m)) S (fun _ h => List.mem_cons_of_mem _ h) g fun x e1 v H1 O1 p n _ g0 => ?_
      obtain ⟨Ow, n1, n2, n3, n4⟩ := n
      refine g0 (σ.set i (some v)) H1 _ ((Mv.of p).binds (fun _ h => List.mem_cons_of_mem _ h) (fun j => ?_) (fun q hq => List.getElem?_set_ne (fun e : i = q => hi.2 (by rw [e]; exact hq))) (List.length_set ..)) (n4.put1 hi.1 (newE_3 hok.1) n1 n2 fun a ha => ⟨(n3 a ha).2.1, (n3 a ha).2.2, fun z => ?_⟩)
      · by_cases e : j = i
        · split
          · rw [e, ow_same]
            exact .inr ⟨List.mem_cons_self, fun a ha => (n3 a ha).1⟩
          · exact .inl rfl
        · split
          · exact .inl (ow_ne _ _ e)
          · exact .inl rfl
      · obtain ⟨us, hu⟩ := n1.there a ha
        rw [z] at hu
        cases hu
    · cases hw
  · cases hc
end
end Mp
set_option Elab.async false
set_option linter.all false
set_option maxRecDepth 10000
/-! # Mp: several targets. -/
namespace Mp
open PySem PySem.Spec PyProof.Rows L2
def Sp4 (Pr : Nat → Val → V → List Addr → Prop) : List Nat → List Val → List V → List Addr → Prop
  | [], xs, vs, O => xs = [] ∧ vs = [] ∧ O = []
  | d :: ds, xs, vs, O => ∃ x xr v vr O1 O2, xs = x :: xr ∧ vs = v :: vr ∧ O = O1 ++ O2 ∧ Pr d x v O1 ∧ Sp4 Pr ds xr vr O2
theorem Sp4.impM {P P' : Nat → Val → V → List Addr → Prop} : ∀ {ds : List Nat} {xs : List Val} {vs : List V} {O : List Addr}, (∀ d x v O1, (∀ a, a ∈ O1 → a ∈ O) → P d x v O1 → P' d x v O1) → Sp4 P ds xs vs O → Sp4 P' ds xs vs O
  | [], _, _, _, _, q => q
  | d :: ds, _, _, _, h, ⟨x, xr, v, vr, O1, O2, e1, e2, e3, p, t⟩ => ⟨x, xr, v, vr, O1, O2, e1, e2, e3, h _ _ _ _ (fun a z => by rw [e3]; exact List.mem_append_left _ z) p, Sp4.impM (fun d x v O1' z => h d x v O1' (fun a y => by rw [e3]; exact List.mem_append_right _ (z a y))) t⟩
def NewVs (K : PySem.W.Frag) (H0 H : Hp) (G : Addr → Prop) (ks : List Nat) (env : Env) (σ : L2.St) (O : Own) (ds : List Nat) (xs : List Val) (vs : List V) : Prop :=
  ∃ tot, Sp4 (OR K H (AA (GX G tot) O)) ds xs vs tot ∧ tot.Nodup ∧ (∀ a, a ∈ tot → H0 a = none ∧ G a ∧ ∀ i, a ∉ O i) ∧ Stt K H (GX G tot) ks env σ O
def rdN (P : Par) (ks : List Nat) (es : List E) (ds : List Nat) : TA := fun σ H Q => ∃ G O env, Stt P.K H G ks env σ O ∧
  Goo P σ H G ks O (mutsL es) (fun xs e' H' O' => ∀ vs, NewVs P.K H H' G ks e' σ O' ds xs vs → Q vs H') (evs P.C es env)
def tParN (is : List Nat) (ta : TA) : TS := fun D σ H => ta σ H fun vs H1 => vs.length = is.length ∧ ∀ H2, Yl H1 H2 → D.nx (setS is vs σ) H2
section
variable {io M M1 M2 : List Nat} {H H1 H2 : Hp} {O O1 O2 : Own} {σ σ1 σ2 : L2.St} {K : PySem.W.Frag} {G G' : Addr → Prop} {ks : List Nat} {env env1 : Env}
theorem okSlots_set {ks : List Nat} {i d : Nat} : ∀ {l : List Nat}, okSlots io ks l = true → okSlots io (ks.set i d) l = true
  | [], _ => rfl
  | a :: r, h => by
    unfold okSlots okSlot at h ⊢
    simp only [Bool.and_eq_true] at h ⊢
    rw [List.length_set]
    exact ⟨h.1, okSlots_set h.2⟩
theorem Pst.monoG (p : Pst K H G ks O M env1 σ H1 O1) (h : ∀ a, G a → G' a) : Pst K H G' ks O M env1 σ H1 O1 := ⟨p.ext, p.dom, p.own, p.new, p.st.mono h⟩
theorem Stt.putN {A : Addr → Prop} : ∀ {is ds : List Nat} {xs : List Val} {vs : List V} {tot : List Addr} {ks : List Nat} {env env' : Env} {σ : L2.St} {O : Own}, Stt K H (GX G tot) ks env σ O → Sp4 (OR K H A) ds xs vs tot → (∀ a, H a ≠ none → A a → AA (GX G tot) O a) → okSlots io ks is = true → (∀ d, d ∈ ds → d ≠ 3) → tot.Nodup →
    (∀ a, a ∈ tot → G a ∧ (∀ j, a ∉ O j) ∧ H a ≠ none) → puts is xs env = some env' → ∃ O', Stt K H G (setK ks is ds) env' (setS is vs σ) O' ∧ vs.length = is.length ∧ ∀ j, O' j = O j ∨ (j ∈ is ∧ ∀ a, a ∈ O' j → a ∈ tot)
  | [], ds, xs, vs, tot, ks, env, env', σ, O, S, sp, hA, ok, h3, nd, ho, hp => by
    cases xs with
    | cons _ _ => cases hp
    | nil =>
      cases hp
      cases ds with
      | cons d ds => obtain ⟨_, _, _, _, _, _, e, _⟩ := sp; cases e
      | nil =>
        obtain ⟨_, rfl, rfl⟩ := sp
        exact ⟨O, S.mono fun a h => h.1, rfl, fun _ => .inl rfl⟩
  | i :: is, ds, xs, vs, tot, ks, env, env', σ, O, S, sp, hA, ok, h3, nd, ho, hp => by
    cases ds with
    | nil => obtain ⟨rfl, _⟩ := sp; cases hp
    | cons d ds =>
      obtain ⟨x, xr, v, vr, Ow, rest, rfl, rfl, rfl, p, t⟩ := sp
      have hp : puts is xr (Mp.st env i x) = some env' := hp
      have ok' := ok
      unfold okSlots at ok'
      simp only [Bool.and_eq_true] at ok'
      have hi := okSlot_of ok'.1
      obtain ⟨nd1, nd2, nd3⟩ := List.nodup_append.mp nd
      have S1 : Stt K H (GX (GX G rest) Ow) ks env σ O := S.mono fun a h => ⟨⟨h.1, fun z => h.2 (List.mem_append_right _ z)⟩, fun z => h.2 (List.mem_append_left _ z)⟩
      have p1 : OR K H (AA (GX (GX G rest) Ow) O) d x v Ow := p.mono fun a n h => by
        have q := hA a n h
        exact ⟨⟨⟨q.1.1, fun z => q.1.2 (List.mem_append_right _ z)⟩, fun z => q.1.2 (List.mem_append_left _ z)⟩, q.2⟩
      have S2 := S1.put1 hi.1 (h3 d List.mem_cons_self) p1 nd1 fun a ha => ⟨⟨(ho a (List.mem_append_left _ ha)).1, fun z => nd3 a ha a z rfl⟩, (ho a (List.mem_append_left _ ha)).2.1, (ho a (List.mem_append_left _ ha)).2.2⟩
      have hO1 : ∀ j a, a ∈ (if i < env.length then ow O i Ow else O) j → a ∈ Ow ∨ a ∈ O j := fun j a z => by
        split at z
        · unfold ow at z
          split at z
          · exact .inl z
          · exact .inr z
        · exact .inr z
      have hA2 : ∀ a, H a ≠ none → A a → AA (GX G rest) (if i < env.length then ow O i Ow else O) a := fun a n h => by
        have q := hA a n h
        refine ⟨⟨q.1.1, fun z => q.1.2 (List.mem_append_right _ z)⟩, fun j z => ?_⟩
        rcases hO1 j a z with z | z
        · exact q.1.2 (List.mem_append_left _ z)
        · exact q.2 j z
      have ho2 : ∀ a, a ∈ rest → G a ∧ (∀ j, a ∉ (if i < env.length then ow O i Ow else O) j) ∧ H a ≠ none := fun a ha => ⟨(ho a (List.mem_append_right _ ha)).1, fun j z => by
        rcases hO1 j a z with z | z
        · exact nd3 a z a ha rfl
        · exact (ho a (List.mem_append_right _ ha)).2.1 j z, (ho a (List.mem_append_right _ ha)).2.2⟩
      obtain ⟨O', S3, l3, h4⟩ := Stt.putN (is := is) S2 t hA2 (okSlots_set ok'.2) (fun d hd => h3 d (List.mem_cons_of_mem _ hd)) nd2 ho2 hp
      refine ⟨O', S3, by simp [l3], fun j => ?_⟩
      rcases h4 j with e | ⟨m, h⟩
      · by_cases ej : j = i
        · by_cases hl : i < env.length
          · refine .inr ⟨by rw [ej]; exact List.mem_cons_self, fun a ha => ?_⟩
            rw [e, if_pos hl, ej, ow_same] at ha
            exact List.mem_append_left _ ha
          · refine .inl ?_
            rw [e, if_neg hl]
        · refine .inl ?_
          rw [e]
          split
          · exact ow_ne O _ ej
          · rfl
      · exact .inr ⟨List.mem_cons_of_mem _ m, fun a ha => List.mem_append_right _ (h a ha)⟩
end
section
variable {T : Tab} {N : List Str} {k : Nat} {X : Cx} {P : Par} {s : Sx} {ks : List Nat} {kd0 : List Nat} {fr0 : Nat} {io : List Nat} {kn kb : Option (List Nat)}
theorem pa_new : ∀ {es : List E} {ds : List Nat} {xs : List Expr}, Ctx T N k X P s → chkL T N es s xs = true → newL T ks es ds = true → PA X xs (rdN P ks es ds)
  | [], ds, xs, cx, hc, hn => by
    cases xs with
    | cons _ _ => unfold chkL at hc; cases hc
    | nil =>
      cases ds with
      | cons _ _ => unfold newL at hn; cases hn
      | nil => exact pa_nil.imp fun σ H Q ⟨G, O, env, S, g⟩ => g.ok S [] ⟨[], ⟨rfl, rfl, rfl⟩, .nil, fun _ z => (nomatch z), S.nil⟩
  | e :: es, ds, xs, cx, hc, hn => by
    cases ds with
    | nil => unfold newL at hn; cases hn
    | cons d ds =>
      cases xs with
      | nil => unfold chkL at hc; cases hc
      | cons x xr =>
        unfold chkL at hc
        simp only [Bool.and_eq_true] at hc
        unfold newL at hn
        simp only [Bool.and_eq_true] at hn
        refine (pa_cons (newE_pe cx hc.1.2 hn.1) (pa_new cx hc.2 hn.2) (noStar_each hc.1.1)).imp fun σ H Q ⟨G, O, env, S, g⟩ => ?_
        refine ⟨G, O, env, S, ?_⟩
        have g : Goo P σ H G ks O (mutsL (e :: es)) (fun xs e' H' O' => ∀ vs, NewVs P.K H H' G ks e' σ O' (d :: ds) xs vs → Q vs H') (bindR (ev P.C e env) fun v e1 => bindR (evs P.C es e1) fun vs e2 => .ok (v :: vs) e2) := g
        cases h1 : ev P.C e env with
        | bad => rw [h1] at g; exact g
        | exc y e1 => rw [h1] at g; exact fun cls d H' O' p => g cls d H' O' (p.mono fun _ h => app_l h)
        | ok y e1 =>
          rw [h1] at g
          intro H1 O1 p1 v ⟨Ow, n1, n2, n3, n4⟩
          have g1 : Goo P σ H1 G ks O1 (mutsL (e :: es)) (fun xs e' H' O' => ∀ vs, NewVs P.K H H' G ks e' σ O' (d :: ds) xs vs → Q vs H') (bindR (evs P.C es e1) fun vs e2 => .ok (y :: vs) e2) := Goo.shift p1 (fun _ h => app_l h) g
          refine ⟨GX G Ow, O1, e1, n4, ?_⟩
          cases h2 : evs P.C es e1 with
          | bad => rw [h2] at g1; exact g1
          | exc y e2 => rw [h2] at g1; exact fun cls d H' O' p => g1 cls d H' O' ((p.monoG fun a h => h.1).mono fun _ h => app_r h)
          | ok ys e2 =>
            rw [h2] at g1
            intro H2 O2 p2 vs ⟨tot, m1, m2, m3, m4⟩
            have gg : ∀ a, GX (GX G Ow) tot a → GX G (Ow ++ tot) a := fun a h => ⟨h.1.1, fun z => (List.mem_append.mp z).elim h.1.2 h.2⟩
            have there : ∀ a, a ∈ Ow → H1 a ≠ none := fun a ha z => by
              obtain ⟨us, hu⟩ := n1.there a ha
              rw [z] at hu
              cases hu
            refine g1 H2 O2 ((p2.monoG fun a h => h.1).mono fun _ h => app_r h) (v :: vs) ⟨Ow ++ tot, ⟨y, ys, v, vs, Ow, tot, rfl, rfl, rfl, ?_, ?_⟩, ?_, fun a ha => ?_, m4.mono gg⟩
            · refine n1.step (p2.toExt n4) (fun a _ h ⟨i, _, z⟩ => h.2 i z) (fun a n h => ⟨⟨h.1.1, fun z => ?_⟩, fun i z => ?_⟩) fun a ha ⟨i, _, z⟩ => (n3 a ha).2.2 i z
              · rcases List.mem_append.mp z with z | z
                · exact h.1.2 z
                · exact n (m3 a z).1
              · rcases p2.new i a z with y | y
                · exact h.2 i y
                · exact n y
            · exact m1.impM fun d x v O1' _ q => q.mono fun a _ h => ⟨gg a h.1, h.2⟩
            · exact List.nodup_append.mpr ⟨n2, m2, fun a h b h2 e => (m3 b h2).2.1.2 (e ▸ h)⟩
            · rcases List.mem_append.mp ha with z | z
              · refine ⟨(n3 a z).1, (n3 a z).2.1, fun i q => ?_⟩
                rcases p2.new i a q with y | y
                · exact (n3 a z).2.2 i y
                · exact there a z y
              · exact ⟨p1.dom a (m3 a z).1, (m3 a z).2.1.1, (m3 a z).2.2⟩
theorem newL_3 : ∀ {es : List E} {ds : List Nat}, newL T ks es ds = true → ∀ d, d ∈ ds → d ≠ 3
  | [], [], _, _, h => by cases h
  | [], _ :: _, h, _, _ => by cases h
  | _ :: _, [], h, _, _ => by cases h
  | e :: es, d :: ds, h, d', hd => by
    unfold newL at h
    simp only [Bool.and_eq_true] at h
    rcases List.mem_cons.mp hd with q | q
    · subst q; exact newE_3 h.1
    · exact newL_3 h.2 d' q
theorem sw_yes {ts vs : List Expr} {k1 k2 : Nat} {p1 p2 : Pos} {env : PySem.Env} (hk : env.blockKind = .function) (h : swYes env.scope ts vs = true) : swappedStores [.Tuple ts k1 p1] (.Tuple vs k2 p2) env = pure (some (swNames env.scope ts)) := by
  unfold swYes at h
  simp only [Bool.and_eq_true, Bool.not_eq_true'] at h
  obtain ⟨⟨⟨⟨h1, h2⟩, h3⟩, h4⟩, h5⟩ := h
  unfold swLen at h1
  show (if (!(ts.length == 2 || ts.length == 3) || vs.length != ts.length || env.blockKind != .function) = true then pure none else
    if (vs.any isStarE) = true then pure none else
    if ((swNames env.scope ts).length != ts.length || (swNames env.scope ts).eraseDups.length != (swNames env.scope ts).length) = true then pure none else
    if vs.all (foldedForSure 8) = true then pure none else if vs.all (constantsAlone 8) = true then _ else pure (some (swNames env.scope ts)) : Sem (Option (List Str))) = _
  rw [hk, h1, h2, h3, h4, h5]
  rfl
theorem sw_no {ts vs : List Expr} {k1 k2 : Nat} {p1 p2 : Pos} {env : PySem.Env} (hk : env.blockKind = .function) (h : swNo env.scope ts vs = true) : swappedStores [.Tuple ts k1 p1] (.Tuple vs k2 p2) env = pure none := by
  unfold swNo at h
  show (if (!(ts.length == 2 || ts.length == 3) || vs.length != ts.length || env.blockKind != .function) = true then pure none else
    if (vs.any isStarE) = true then pure none else
    if ((swNames env.scope ts).length != ts.length || (swNames env.scope ts).eraseDups.length != (swNames env.scope ts).length) = true then pure none else
    if vs.all (foldedForSure 8) = true then pure none else if vs.all (constantsAlone 8) = true then _ else pure (some (swNames env.scope ts)) : Sem (Option (List Str))) = _
  rw [hk]
  cases h1 : swLen ts vs with
  | true =>
    unfold swLen at h1
    rw [h1]
    rfl
  | false =>
    rw [h1] at h
    unfold swLen at h1
    rw [h1]
    cases h2 : (vs.any isStarE) with
    | true => rfl
    | false =>
      rw [h2] at h
      cases h3 : ((swNames env.scope ts).length != ts.length || (swNames env.scope ts).eraseDups.length != (swNames env.scope ts).length) with
      | true => rfl
      | false =>
        rw [h3] at h
        have h : vs.all (foldedForSure 8) = true := h
        rw [h]
        rfl
end
end Mp
set_option Elab.async false
set_option linter.all false
set_option maxRecDepth 10000
/-! # Mp: several targets at once; moves. -/
namespace Mp
open PySem PySem.Spec PyProof.Rows L2
section
variable {T : Tab} {N : List Str} {k : Nat} {X : Cx} {P : Par} {s : Sx} {ks : List Nat} {kd0 : List Nat} {fr0 : Nat} {io : List Nat} {kn kb : Option (List Nat)}
theorem CtxS.bk (cx : CtxS T N k X P s) : X.env.blockKind = .function := by
  unfold Env.blockKind
  rw [cx.kf]
  rfl
theorem rdN_mono {es : List E} {ds : List Nat} {σ : L2.St} {H : Hp} {Q Q' : List V → Hp → Prop} (h : rdN P ks es ds σ H Q) (i : ∀ vs H1, Q vs H1 → Q' vs H1) : rdN P ks es ds σ H Q' := by
  obtain ⟨G, O, env, S, g⟩ := h
  exact ⟨G, O, env, S, g.imp (fun _ h => h) fun x e H' O' p t vs n => i vs H' (t vs n)⟩
theorem plain_of (cx : Ctx T N k X P s) {x : Str} (h : isPlainLoc s x = true) : X.env.scope.names.lookup x = some .local := by
  unfold isPlainLoc at h
  rw [cx.sc]
  split at h
  · assumption
  · cases h
theorem ps_parNo {is : List Nat} {ts vs : List Expr} {k1 k2 : Nat} {p1 p2 pos : Pos} {es : List E} {ds : List Nat} (cx : CtxS T N k X P s) (ht : chkTs N s ts is = true) (ha : PA X vs (rdN P ks es ds)) (hl : is.length ≤ 1000) (hs : swNo s.sc ts vs = true) :
    PS X (.Assign [.Tuple ts k1 p1] (.Tuple vs k2 p2) pos) (tParN is (rdN P ks es ds)) := by
  refine (ps_asg (pe_tupF ha) (pg_tgt (t := .tup is) cx.cx (show chkT N s (.Tuple ts k1 p1) (.tup is) = true by unfold chkT; exact ht)) rfl (sw_no cx.bk (by rw [cx.cx.sc]; exact hs)) rfl).imp fun D σ H h => ?_
  refine rdN_mono h fun us H1 ⟨h1, h2⟩ => ⟨by rw [h1]; exact len_line hl, fun p o hp hd => ⟨p, us, rfl, .inl (.inr ⟨o, upd_same⟩), h1, gSlots_ok h1 (h2 _ (.inr ⟨p, _, hp, rfl⟩))⟩⟩
theorem ps_parYes2 {i j : Nat} {x y : Str} {a b : Expr} {k1 k2 : Nat} {px py p1 p2 pos : Pos} {es : List E} {ds : List Nat} (cx : CtxS T N k X P s) (hi : nameAt N i x = true) (hj : nameAt N j y = true) (hx : isPlainLoc s x = true) (hy : isPlainLoc s y = true) (ha : PA X [a, b] (rdN P ks es ds))
    (hs : swYes s.sc [.Name x px, .Name y py] [a, b] = true) : PS X (.Assign [.Tuple [.Name x px, .Name y py] k1 p1] (.Tuple [a, b] k2 p2) pos) (tParN [i, j] (rdN P ks es ds)) := by
  have hw := sw_yes (k1 := k1) (k2 := k2) (p1 := p1) (p2 := p2) cx.bk (by rw [cx.cx.sc]; exact hs)
  have hn : swNames X.env.scope [.Name x px, .Name y py] = [x, y] ∧ x ≠ y := by
    unfold swYes at hs
    simp only [Bool.and_eq_true, Bool.not_eq_true'] at hs
    have h3 := hs.1.1.2
    rw [cx.cx.sc]
    revert h3
    unfold swNames
    rw [List.filterMap_cons, List.filterMap_cons, List.filterMap_nil]
    split
    · intro h3
      split at h3 <;> simp at h3
    · rename_i u hu
      split
      · intro h3
        simp at h3
      · rename_i w hw'
        intro h3
        have e1 : x = u := by
          simp only at hu
          split at hu
          · exact Option.some.inj hu
          · cases hu
        have e2 : y = w := by
          simp only at hw'
          split at hw'
          · exact Option.some.inj hw'
          · cases hw'
        subst e1 e2
        refine ⟨rfl, fun e => ?_⟩
        subst e
        simp [List.eraseDups_cons] at h3
  rw [hn.1] at hw
  have nd : X.N.Nodup := by rw [cx.cx.hN]; exact cx.cx.nd
  have ij : i ≠ j := fun e => by
    subst e
    have h1 := nameAt_of cx.cx hi
    rw [nameAt_of cx.cx hj] at h1
    exact hn.2 (Option.some.inj h1).symm
  refine (ps_par cx.cx.calm nd (nameAt_of cx.cx hi) (nameAt_of cx.cx hj) ij (plain_of cx.cx hx) (plain_of cx.cx hy) ha hw).imp fun D σ H h => ?_
  refine rdN_mono h fun us H1 ⟨h1, h2⟩ => ?_
  match us, h1, h2 with
  | [u, w], _, h2 => exact ⟨u, w, rfl, h2 H1 (.inl rfl)⟩
theorem ps_parYes3 {i j l : Nat} {x y z : Str} {a b c : Expr} {k1 k2 : Nat} {px py pz p1 p2 pos : Pos} {es : List E} {ds : List Nat} (cx : CtxS T N k X P s) (hi : nameAt N i x = true) (hj : nameAt N j y = true) (hl : nameAt N l z = true) (hx : isPlainLoc s x = true) (hy : isPlainLoc s y = true) (hz : isPlainLoc s z = true)
    (ha : PA X [a, b, c] (rdN P ks es ds)) (hs : swYes s.sc [.Name x px, .Name y py, .Name z pz] [a, b, c] = true) : PS X (.Assign [.Tuple [.Name x px, .Name y py, .Name z pz] k1 p1] (.Tuple [a, b, c] k2 p2) pos) (tParN [i, j, l] (rdN P ks es ds)) := by
  have hw := sw_yes (k1 := k1) (k2 := k2) (p1 := p1) (p2 := p2) cx.bk (by rw [cx.cx.sc]; exact hs)
  have hn : swNames X.env.scope [.Name x px, .Name y py, .Name z pz] = [x, y, z] ∧ x ≠ y ∧ x ≠ z ∧ y ≠ z := by
    unfold swYes at hs
    simp only [Bool.and_eq_true, Bool.not_eq_true'] at hs
    have h3 := hs.1.1.2
    rw [cx.cx.sc]
    revert h3
    unfold swNames
    rw [List.filterMap_cons, List.filterMap_cons, List.filterMap_cons, List.filterMap_nil]
    split
    · intro h3
      split at h3 <;> split at h3 <;> simp at h3
    · rename_i u hu
      split
      · intro h3
        split at h3 <;> simp at h3
      · rename_i w hw'
        split
        · intro h3
          simp at h3
        · rename_i v hv
          intro h3
          have e1 : x = u := by
            simp only at hu
            split at hu
            · exact Option.some.inj hu
            · cases hu
          have e2 : y = w := by
            simp only at hw'
            split at hw'
            · exact Option.some.inj hw'
            · cases hw'
          have e3 : z = v := by
            simp only at hv
            split at hv
            · exact Option.some.inj hv
            · cases hv
          subst e1 e2 e3
          refine ⟨rfl, fun e => ?_, fun e => ?_, fun e => ?_⟩
          · subst e
            simp [List.eraseDups_cons] at h3
            by_cases q : z = x <;> simp [q, List.eraseDups_cons] at h3
          · subst e
            simp [List.eraseDups_cons] at h3
            by_cases q : y = x <;> simp [q, List.eraseDups_cons] at h3
          · subst e
            simp [List.eraseDups_cons] at h3
            by_cases q : y = x <;> simp [q, List.eraseDups_cons] at h3
  rw [hn.1] at hw
  have nd : X.N.Nodup := by rw [cx.cx.hN]; exact cx.cx.nd
  have ne : ∀ {i j : Nat} {x y : Str}, nameAt N i x = true → nameAt N j y = true → x ≠ y → i ≠ j := fun {i j x y} h1 h2 h3 e => by
    subst e
    have h1 := nameAt_of cx.cx h1
    rw [nameAt_of cx.cx h2] at h1
    exact h3 (Option.some.inj h1).symm
  refine (ps_par3 cx.cx.calm nd (nameAt_of cx.cx hi) (nameAt_of cx.cx hj) (nameAt_of cx.cx hl) (ne hi hj hn.2.1) (ne hi hl hn.2.2.1) (ne hj hl hn.2.2.2) (plain_of cx.cx hx) (plain_of cx.cx hy) (plain_of cx.cx hz) ha hw).imp fun D σ H h => ?_
  refine rdN_mono h fun us H1 ⟨h1, h2⟩ => ?_
  match us, h1, h2 with
  | [u, w, v], _, h2 => exact ⟨u, w, v, rfl, h2 H1 (.inl rfl)⟩
end
end Mp
set_option Elab.async false
set_option linter.all false
set_option maxRecDepth 10000
/-! # Mp: the other small statements. -/
namespace Mp
open PySem PySem.Spec PyProof.Rows L2
section
variable {T : Tab} {N : List Str} {k : Nat} {X : Cx} {P : Par} {s : Sx} {ks : List Nat} {kd0 : List Nat} {fr0 : Nat} {io : List Nat} {kn kb : Option (List Nat)}
theorem nxO_goo {σ : L2.St} {H : Hp} {G : Addr → Prop} {O : Own} {M : List Nat} {D : Ends} {o : Option Env} (g : GooO P kd0 fr0 io M kn kb D σ H G O (nxO o)) : ∃ e, o = some e ∧ GooO P kd0 fr0 io M kn kb D σ H G O (.nx e) := by
  cases o with
  | none => exact g.elim
  | some e => exact ⟨e, rfl, g⟩
theorem okSlots_io : ∀ {is : List Nat} {i : Nat}, okSlots io ks is = true → i ∈ is → i < ks.length ∧ i ∉ io
  | [], _, _, h => by cases h
  | j :: is, i, h, hi => by
    unfold okSlots at h
    simp only [Bool.and_eq_true] at h
    rcases List.mem_cons.mp hi with e | e
    · rw [e]; exact okSlot_of h.1
    · exact okSlots_io h.2 e
theorem chkTs_cons {ts : List Expr} {is : List Nat} {n : Nat} (h : chkTs N s ts is = true) (hl : ts.length = n + 1) : ∃ x p tr i ir, ts = .Name x p :: tr ∧ is = i :: ir ∧ nameAt N i x = true ∧ chkTs N s tr ir = true ∧ tr.length = n := by
  cases ts with
  | nil => cases hl
  | cons t tr =>
    cases is with
    | nil => unfold chkTs at h; cases t <;> cases h
    | cons i ir =>
      cases t <;> first | (unfold chkTs at h; cases h; done) | skip
      unfold chkTs at h
      simp only [Bool.and_eq_true] at h
      exact ⟨_, _, tr, i, ir, rfl, rfl, h.1.1, h.2, by simpa using hl⟩
theorem chkTs_nil {ts : List Expr} {is : List Nat} (h : chkTs N s ts is = true) (hl : ts.length = 0) : ts = [] ∧ is = [] := by
  cases ts with
  | cons _ _ => cases hl
  | nil =>
    cases is with
    | nil => exact ⟨rfl, rfl⟩
    | cons _ _ => unfold chkTs at h; cases h
theorem Sp4.there {K : PySem.W.Frag} {H : Hp} {A : Addr → Prop} : ∀ {ds : List Nat} {xs : List Val} {vs : List V} {O : List Addr}, Sp4 (OR K H A) ds xs vs O → ∀ a, a ∈ O → H a ≠ none
  | [], _, _, _, ⟨_, _, e⟩, a, ha => by rw [e] at ha; cases ha
  | d :: ds, _, _, _, ⟨x, xr, v, vr, O1, O2, e1, e2, e3, p, t⟩, a, ha => by
    rw [e3] at ha
    rcases List.mem_append.mp ha with z | z
    · intro q
      obtain ⟨us, hu⟩ := p.there a z
      rw [q] at hu
      cases hu
    · exact Sp4.there t a z
theorem snds_par {is ds : List Nat} {es : List E} : SndS T N k kd0 fr0 io (.par is ds es) := by
  intro X P s ks kn kb st cx hc hw
  unfold chkS at hc
  split at hc
  · rename_i ts k1 p1 vs k2 p2 pos
    simp only [Bool.and_eq_true] at hc
    obtain ⟨⟨⟨c1, c2⟩, c3⟩, c4⟩ := hc
    unfold wfS at hw
    split at hw
    · rename_i hok
      cases hw
      simp only [Bool.and_eq_true] at hok
      have hlen : is.length = es.length := Nat.eq_of_beq_eq_true hok.2
      have hl : is.length ≤ 1000 := by
        have := Nat.le_of_ble_eq_true c4
        have e2 := chkL_len c2
        omega
      have pa := pa_new cx.cx c2 hok.1.1
      have key : PS X (.Assign [.Tuple ts k1 p1] (.Tuple vs k2 p2) pos) (tParN is (rdN P ks es ds)) := by
        rcases Bool.or_eq_true_iff.mp c3 with h | h
        · obtain ⟨h1, h2⟩ := Bool.and_eq_true_iff.mp h
          have h1' := h1
          unfold swYes swLen at h1'
          simp only [Bool.and_eq_true, Bool.not_eq_true', Bool.or_eq_false_iff, Bool.not_eq_false', Bool.or_eq_true, beq_iff_eq, bne_eq_false_iff_eq] at h1'
          obtain ⟨l1, l2⟩ := h1'.1.1.1.1
          rcases l1 with l1 | l1
          · obtain ⟨x, px, tr, i, ir, rfl, rfl, n1, c1, l1⟩ := chkTs_cons c1 l1
            obtain ⟨y, py, tr, j, ir, rfl, rfl, n2, c1, l1⟩ := chkTs_cons c1 l1
            obtain ⟨rfl, rfl⟩ := chkTs_nil c1 l1
            unfold isLocs isLocs at h2
            simp only [Bool.and_eq_true] at h2
            match vs, l2, pa, h1 with
            | [a, b], _, pa, h1 => exact ps_parYes2 cx n1 n2 h2.1 h2.2.1 pa h1
          · obtain ⟨x, px, tr, i, ir, rfl, rfl, n1, c1, l1⟩ := chkTs_cons c1 l1
            obtain ⟨y, py, tr, j, ir, rfl, rfl, n2, c1, l1⟩ := chkTs_cons c1 l1
            obtain ⟨z, pz, tr, l, ir, rfl, rfl, n3, c1, l1⟩ := chkTs_cons c1 l1
            obtain ⟨rfl, rfl⟩ := chkTs_nil c1 l1
            unfold isLocs isLocs isLocs at h2
            simp only [Bool.and_eq_true] at h2
            match vs, l2, pa, h1 with
            | [a, b, c], _, pa, h1 => exact ps_parYes3 cx n1 n2 n3 h2.1 h2.2.1 h2.2.2.1 pa h1
        · exact ps_parNo cx c1 pa hl h
      refine key.imp fun D σ H ⟨G, O, env, S, g⟩ => ?_
      refine ⟨G, O, env, S, ?_⟩
      have g : GooO P kd0 fr0 io (mutsS (.par is ds es)) (some (setK ks is ds)) kb D σ H G O (bindO (evs P.C es env) fun vs e1 => nxO (puts is vs e1)) := g
      cases h1 : evs P.C es env with
      | bad => rw [h1] at g; exact g
      | exc y e1 => rw [h1] at g; exact g.elim
      | ok xs e1 =>
        rw [h1] at g
        intro H1 O1 p1 us ⟨tot, n1, n2, n3, n4⟩
        obtain ⟨e2, hp, g2⟩ := nxO_goo g
        have hth := n1.there
        obtain ⟨O', S', l3, h4⟩ := Stt.putN (io := io) n4 n1 (fun _ _ h => h) hok.1.2 (newL_3 hok.1.1) n2 (fun a ha => ⟨(n3 a ha).2.1, (n3 a ha).2.2, hth a ha⟩) hp
        refine ⟨l3, fun H2 yl => ?_⟩
        have mv : Mv io (mutsS (.par is ds es)) H O σ H1 O' (setS is us σ) := (Mv.of p1).binds (fun _ h => app_r h) (fun j => (h4 j).imp id fun ⟨m, h⟩ => ⟨app_l m, fun a ha => (n3 a (h a ha)).1⟩) (fun q hq => setS_at is us σ q fun z => (okSlots_io hok.1.2 z).2 hq) (setS_len is us σ)
        rcases yl with e | ⟨p, o, hp', e⟩
        · subst e
          exact g2 _ _ _ mv S'
        · subst e
          exact g2 _ _ _ (mv.trans (Mv.of (Pst.laid (M := mutsS (.par is ds es)) S' hp'))) (S'.laid hp')
    · cases hw
  · cases hc

theorem Sp4.zeros {K : PySem.W.Frag} {H : Hp} {A : Addr → Prop} : ∀ {is : List Nat} {xs : List Val} {vs : List V}, VRs K H A xs vs → is.length = xs.length → Sp4 (OR K H A) (is.map fun _ => 0) xs vs []
  | [], [], _, r, _ => ⟨rfl, r, rfl⟩
  | [], _ :: _, _, _, h => by cases h
  | _ :: _, [], _, _, h => by cases h
  | i :: is, x :: xs, _, ⟨v, r, e, hv, t⟩, h => ⟨x, xs, v, r, [], [], rfl, e, rfl, ⟨hv, rfl⟩, Sp4.zeros t (by simpa using h)⟩
theorem tupOf_some {x : Val} {ys : List Val} (h : tupOf x = some ys) : x = .tup ys := by
  cases x <;> first | (have h' : (none : Option (List Val)) = some ys := h; cases h'; done) | skip
  cases h; rfl
theorem puts_len2 : ∀ {is : List Nat} {xs : List Val} {e e' : Env}, puts is xs e = some e' → is.length = xs.length
  | [], [], _, _, _ => rfl
  | [], _ :: _, _, _, h => by cases h
  | _ :: _, [], _, _, h => by cases h
  | i :: is, v :: vs, e, e', h => by
    have h : puts is vs (st e i v) = some e' := h
    simp [puts_len2 h]
theorem snds_asgT {is : List Nat} {m : E} : SndS T N k kd0 fr0 io (.asgT is m) := by
  intro X P s ks kn kb st cx hc hw
  unfold chkS at hc
  split at hc
  · rename_i ts k1 p1 v pos
    simp only [Bool.and_eq_true] at hc
    obtain ⟨⟨⟨c1, c2⟩, c3⟩, c4⟩ := hc
    unfold wfS at hw
    split at hw
    · rename_i hok
      cases hw
      simp only [Bool.and_eq_true] at hok
      have hsw : swappedStores [.Tuple ts k1 p1] v X.env = pure none := by cases v <;> first | rfl | cases c2
      refine (ps_asg (pos := pos) (sndE T N k m X P s ks v cx.cx c4 hok.1).pe (pg_tgt (t := .tup is) cx.cx (show chkT N s (.Tuple ts k1 p1) (.tup is) = true by unfold chkT; exact c1)) (sole_sw c3) hsw rfl).imp fun D σ H ⟨G, O, env, S, g⟩ => ?_
      refine bindO_P (M := mutsS (.asgT is m)) S (fun _ h => app_r h) g fun x e1 v H1 O1 p o1 g1 => ?_
      have g1 : GooO P kd0 fr0 io (mutsS (.asgT is m)) (some (setK ks is (is.map fun _ => 0))) kb D σ H1 G O1 (putsO is (tupOf x) e1) := g1
      cases ht : tupOf x with
      | none => rw [ht] at g1; exact g1.elim
      | some ys =>
        rw [ht] at g1
        have hx := tupOf_some ht
        subst hx
        obtain ⟨e2, hp, g2⟩ := nxO_goo g1
        obtain ⟨a, vs, rfl, hT, r⟩ := o1.tup
        obtain ⟨O', S', l3, h4⟩ := Stt.putN (io := io) (tot := []) p.st.nil (Sp4.zeros r (puts_len2 hp)) (fun a _ h => ⟨⟨h.1, by simp⟩, h.2⟩) hok.2 (fun d hd => by
          obtain ⟨_, _, e⟩ := List.mem_map.mp hd
          omega) .nil (fun _ z => nomatch z) hp
        refine ⟨a, vs, rfl, by rw [cx.cx.K]; exact hT.sqt, l3, gSlots_ok l3 ?_⟩
        exact g2 _ _ _ (Mv.refl.binds (M1 := []) (fun _ z => nomatch z) (fun j => (h4 j).imp id fun ⟨m, h⟩ => ⟨app_l m, fun a ha => nomatch h a ha⟩) (fun q hq => setS_at is vs σ q fun z => (okSlots_io hok.2 z).2 hq) (setS_len is vs σ)) S'
    · cases hw
  · cases hc
theorem snds_mv {i j : Nat} : SndS T N k kd0 fr0 io (.mv i j) := by
  intro X P s ks kn kb st cx hc hw
  unfold chkS at hc
  split at hc
  · rename_i x p1 y p2 pos
    simp only [Bool.and_eq_true] at hc
    obtain ⟨⟨⟨c1, c2⟩, c3⟩, c4⟩ := hc
    unfold wfS at hw
    split at hw
    · rename_i hok
      cases hw
      simp only [Bool.and_eq_true, Bool.not_eq_true'] at hok
      obtain ⟨⟨⟨h1, h2⟩, h3⟩, h4⟩ := hok
      have hi := okSlot_of h1
      have hj := okSlot_of h2
      have k3 : kd ks j ≠ 3 := fun e => by rw [e] at h4; cases h4
      have nd : X.N.Nodup := by rw [cx.cx.hN]; exact cx.cx.nd
      obtain ⟨l1, l2⟩ := isLoc_of cx.cx c2
      refine (ps_set (pos := pos) nd (nameAt_of cx.cx c1) l1 (pe_slot cx.cx c3 c4) rfl l2).imp fun D σ H ⟨G, O, env, S, g⟩ => ?_
      have g : GooO P kd0 fr0 io [i, j] (some ((ks.set j 0).set i (kd ks j))) kb D σ H G O (undefd (gt env j) .bad (.nx (Mp.st (Mp.st env j .undef) i (gt env j)))) := g
      by_cases z : gt env j = .undef
      · rw [z] at g; exact g.elim
      · rw [undefd_ne _ _ z] at g
        obtain ⟨v, e1, _⟩ := S.slot j z
        obtain ⟨S1, o1⟩ := S.takeout hj.1 k3 z e1
        refine ⟨v, e1, ?_⟩
        have hown : ∀ a, a ∈ O j → G a ∧ (∀ k, a ∉ ow O j [] k) ∧ H a ≠ none := fun a ha => ⟨S.own j a ha, fun k q => by
          unfold ow at q
          split at q
          · cases q
          · rename_i e
            exact e (S.dj k j a q ha), fun q => by
          obtain ⟨us, hu⟩ := S.there ha
          rw [q] at hu
          cases hu⟩
        refine g (σ.set i (some v)) H _ ⟨fun _ _ h _ => h, fun _ h => h, fun q hq => ?_, fun q a ha => ?_, fun q hq => List.getElem?_set_ne (fun e : i = q => hi.2 (by rw [e]; exact hq)), List.length_set ..⟩ (S1.put1 (by rw [List.length_set]; exact hi.1) k3 o1 (S.nd j) hown)
        · have q1 : q ≠ i := fun e => hq (by rw [e]; simp)
          have q2 : q ≠ j := fun e => hq (by rw [e]; simp)
          split
          · rw [ow_ne _ _ q1, ow_ne _ _ q2]
          · rw [ow_ne _ _ q2]
        · have key : a ∈ ow O j [] q ∨ (q = i ∧ a ∈ O j) := by
            split at ha
            · unfold ow at ha
              split at ha
              · rename_i e
                exact .inr ⟨e, ha⟩
              · exact .inl ha
            · exact .inl ha
          rcases key with h | ⟨h, h'⟩
          · unfold ow at h
            split at h
            · cases h
            · exact .inl ⟨q, h, .inl rfl⟩
          · exact .inl ⟨j, h', .inr ⟨by rw [h]; simp, by simp, by rw [h]; exact hi.2, hj.2⟩⟩
    · cases hw
  · cases hc
theorem snds_pass : SndS T N k kd0 fr0 io .pass := by
  intro X P s ks kn kb st cx hc hw
  unfold chkS at hc
  split at hc
  · cases hw
    exact ps_pass.imp fun D σ H ⟨G, O, env, S, g⟩ => g σ H O Mv.refl S
  · cases hc
theorem snds_raise {c : Nat} {es : List E} : SndS T N k kd0 fr0 io (.raise c es) := by
  intro X P s ks kn kb st cx hc hw
  exact ps_never.imp fun D σ H ⟨G, O, env, S, g⟩ => g
theorem snds_brk : SndS T N k kd0 fr0 io .brk := by
  intro X P s ks kn kb st cx hc hw
  unfold chkS at hc
  split at hc
  · cases kb with
    | none => cases hw
    | some kx =>
      unfold wfS at hw
      split at hw
      · rename_i k2 hk
        cases hk
        split at hw
        · rename_i he
          have e := eqK_eq he
          subst e
          exact ps_break.imp fun D σ H ⟨G, O, env, S, g⟩ => g σ H O Mv.refl S
        · cases hw
      · cases hw
  · cases hc
theorem ioK_of (h : ioK kd0 io ks = true) : ∀ p, p ∈ io → kd ks p = kd kd0 p := fun p hp => by
  unfold ioK at h
  rw [List.all_eq_true] at h
  exact Nat.eq_of_beq_eq_true (h p hp)
theorem snds_retN : SndS T N k kd0 fr0 io .retN := by
  intro X P s ks kn kb st cx hc hw
  unfold chkS at hc
  split at hc
  · unfold wfS at hw
    split at hw
    · rename_i hio
      refine ps_retN.imp fun D σ H ⟨G, O, env, S, g⟩ => ?_
      refine g ks env σ H O [] .non Mv.refl S.nil (fun p hp => ⟨rfl, ioK_of hio p hp⟩) ?_ .nil (fun _ z => nomatch z)
      cases fr0 with
      | zero => exact ⟨rfl, rfl⟩
      | succ d => exact .inr ⟨fun xs e => (nomatch e), rfl, rfl⟩
    · cases hw
  · cases hc
theorem snds_ex {m : E} : SndS T N k kd0 fr0 io (.ex m) := by
  intro X P s ks kn kb st cx hc hw
  unfold chkS at hc
  split at hc
  · rename_i v pos
    simp only [Bool.and_eq_true] at hc
    unfold wfS at hw
    split at hw
    · rename_i hok
      cases hw
      refine (ps_expr (pos := pos) (sndE T N k m X P s ks v cx.cx hc.2 hok).pe (noComp_sw hc.1)).imp fun D σ H ⟨G, O, env, S, g⟩ => ?_
      exact bindO_P (M := mutsS (.ex m)) S (fun _ h => h) g fun x e1 v H1 O1 p o1 g1 => g1 σ H1 O1 Mv.refl p.st
    · cases hw
  · cases hc
theorem snds_ret {m : E} : SndS T N k kd0 fr0 io (.ret m) := by
  intro X P s ks kn kb st cx hc hw
  unfold chkS at hc
  split at hc
  · rename_i v pos
    unfold wfS at hw
    split at hw
    · rename_i hok
      simp only [Bool.and_eq_true] at hok
      obtain ⟨hio, hok⟩ := hok
      rcases Bool.or_eq_true_iff.mp hok with hn | hv
      · refine (ps_ret (pos := pos) (newE_pe cx.cx hc hn)).imp fun D σ H ⟨G, O, env, S, g⟩ => ?_
        refine bindO_F (M := mutsS (.ret m)) S (fun _ h => List.mem_cons_of_mem _ h) g fun x e1 v H1 O1 p n _ g0 => ?_
        obtain ⟨Ow, n1, n2, n3, n4⟩ := n
        exact g0 ks e1 σ H1 O1 Ow v ((Mv.of p).mono fun _ h => List.mem_cons_of_mem _ h) n4 (fun p hp => ⟨rfl, ioK_of hio p hp⟩) n1 n2 fun a ha => ⟨.inr (n3 a ha).1, (n3 a ha).2⟩
      · unfold retVar at hv
        split at hv
        · rename_i i
          simp only [Bool.and_eq_true, Bool.not_eq_true'] at hv
          obtain ⟨⟨⟨h1, h2⟩, h3⟩, h4⟩ := hv
          have h1 := Nat.eq_of_beq_eq_true h1
          have hi := okSlot_of h4
          have k3 : kd ks i ≠ 3 := fun e => by rw [h1] at e; rw [e] at h3; cases h3
          unfold chkE at hc
          split at hc
          · rename_i x p
            simp only [Bool.and_eq_true] at hc
            refine (ps_ret (pos := pos) (pe_slot cx.cx hc.1 hc.2)).imp fun D σ H ⟨G, O, env, S, g⟩ => ?_
            have g : GooO P kd0 fr0 io (mutsS (.ret (.var i))) kn kb D σ H G O (bindO (undefd (gt env i) .bad (.ok (gt env i) env)) fun v e1 => .ret v e1) := g
            by_cases z : gt env i = .undef
            · rw [z] at g; exact g.elim
            · rw [undefd_ne _ _ z] at g
              obtain ⟨v, e1, _⟩ := S.slot i z
              obtain ⟨S1, o1⟩ := S.takeout hi.1 k3 z e1
              refine ⟨v, e1, ?_⟩
              rw [h1] at o1
              refine g (ks.set i 0) (Mp.st env i .undef) σ H (ow O i []) (O i) v ⟨fun _ _ h _ => h, fun _ h => h, fun q hq => ow_ne O _ (fun e => hq (by rw [e]; exact List.mem_cons_self)), fun q a ha => ?_, fun _ _ => rfl, rfl⟩ S1 (fun p hp => ?_) o1 (S.nd i) fun a ha => ⟨.inl ⟨i, hi.2, ha⟩, S.own i a ha, fun q hq => ?_⟩
              · unfold ow at ha
                split at ha
                · cases ha
                · exact .inl ⟨q, ha, .inl rfl⟩
              · have e : p ≠ i := fun e => hi.2 (e ▸ hp)
                rw [gt_st, if_neg (fun z => e z.1), kd_set, if_neg (fun z => e z.1)]
                exact ⟨rfl, ioK_of hio p hp⟩
              · unfold ow at hq
                split at hq
                · cases hq
                · rename_i e
                  exact e (S.dj q i a hq ha)
          · cases hc
        · cases hv
    · cases hw
  · cases hc
end
end Mp
set_option Elab.async false
set_option linter.all false
set_option maxRecDepth 10000
/-! # Mp: lists that are changed. -/
namespace Mp
open PySem PySem.Spec PyProof.Rows L2
section
variable {io M : List Nat} {H H' H2 : Hp} {O O2 : Own} {σ σ2 : L2.St} {K : PySem.W.Frag} {G : Addr → Prop} {ks : List Nat} {env : Env} {i : Nat} {v : V} {x' : Val} {l B : List Addr}
theorem Stt.put2 (S : Stt K H (GX G B) ks env σ O) (hi : gt env i ≠ .undef) (hv : σ[i]? = some (some v)) (ext : ∀ a o, H a = some o → a ∉ O i → H' a = some o) (dom : ∀ a, H' a = none → H a = none)
    (hn : ∀ a, a ∈ l → a ∈ O i ∨ a ∈ B) (hB : ∀ a, a ∈ B → G a) (nd : l.Nodup) (so : SO K H' (AA G (ow O i l)) (kd ks i) x' v l) (hx : x' ≠ .undef) : Stt K H' G ks (Mp.st env i x') σ (ow O i l) := by
  have hlt := gt_lt hi
  have ex : Ext (fun a => a ∈ O i) H H' := ⟨ext, fun a h => S.there h⟩
  have aa : ∀ a, H a ≠ none → AA (GX G B) O a → AA G (ow O i l) a := fun a _ h => ⟨h.1.1, fun j z => by
    unfold ow at z
    split at z
    · rcases hn a z with q | q
      · exact h.2 i q
      · exact h.1.2 q
    · exact h.2 j z⟩
  refine ⟨fun j z => ?_, fun j z => ?_, fun j => ?_, fun j k a hj hk => ?_, fun j a h => ?_, fun a h => (S.fresh a (dom a h)).1, by rw [st_len]; exact S.len⟩
  · rw [gt_st] at z ⊢
    by_cases e : j = i
    · subst e
      rw [if_pos ⟨rfl, hlt⟩, ow_same]
      exact ⟨v, hv, so⟩
    · rw [if_neg (fun q => e q.1)] at z ⊢
      rw [ow_ne O l e]
      obtain ⟨w, h1, h2⟩ := S.slot j z
      exact ⟨w, h1, h2.step ex (fun a _ ha q => ha.2 i q) aa fun a ha q => e (S.dj j i a ha q)⟩
  · rw [gt_st] at z
    by_cases e : j = i
    · subst e
      rw [if_pos ⟨rfl, hlt⟩] at z
      exact absurd z hx
    · rw [if_neg (fun q => e q.1)] at z
      rw [ow_ne O l e]
      exact S.emp j z
  · unfold ow
    split
    · exact nd
    · exact S.nd j
  · unfold ow at hj hk
    split at hj <;> split at hk
    · rename_i e1 e2
      rw [e1, e2]
    · rename_i e1 e2
      rcases hn a hj with q | q
      · rw [e1]; exact S.dj i k a q hk
      · exact absurd q (S.own k a hk).2
    · rename_i e1 e2
      rcases hn a hk with q | q
      · rw [e2]; exact S.dj j i a hj q
      · exact absurd q (S.own j a hj).2
    · exact S.dj j k a hj hk
  · unfold ow at h
    split at h
    · rcases hn a h with q | q
      · exact (S.own i a q).1
      · exact hB a q
    · exact (S.own j a h).1
theorem Mv.write {a0 : Addr} {o : HO} (m : Mv io M H O σ H2 O2 σ2) (hi : i ∈ M) (h0 : a0 ∈ O2 i) (hl : ∀ a, a ∈ l → a ∈ O2 i ∨ H a = none) : Mv io M H O σ (upd H2 a0 o) (ow O2 i l) σ2 := by
  refine ⟨fun a u h n => ?_, fun a h => ?_, fun j hj => ?_, fun j a ha => ?_, m.io, m.len⟩
  · have e : a ≠ a0 := fun e => by
      subst e
      rcases m.new i a h0 with ⟨j, h1, h2⟩ | h1
      · rcases h2 with h2 | h2
        · exact n i hi (h2 ▸ h1)
        · exact n j h2.2.1 h1
      · rw [h] at h1; cases h1
    rw [upd_ne e]
    exact m.ext a u h n
  · by_cases e : a = a0
    · subst e
      rw [upd_same] at h
      cases h
    · rw [upd_ne e] at h
      exact m.dom a h
  · rw [ow_ne O2 l (fun e => hj (by rw [e]; exact hi))]
    exact m.own j hj
  · unfold ow at ha
    split at ha
    · rename_i e
      rcases hl a ha with q | q
      · rw [e]; exact m.new i a q
      · exact .inr q
    · exact m.new j a ha
/-- the list of slot i is written: ys of us, which own l -/
theorem Stt.wr2 {a : Addr} {vs us : List V} {O' l' : List Addr} {d : Nat} {xs ys : List Val} (S : Stt K H (GX G B) ks env σ O) (h : gt env i = .lst xs) (hk : kd ks i = d + 1) (n3 : d + 1 ≠ 3) (hv : σ[i]? = some (some (.ref a))) (hl : H a = some (.lst vs)) (ho : O i = a :: O')
    (sub : ∀ b, b ∈ l' → b ∈ O' ∨ b ∈ B) (hB : ∀ b, b ∈ B → G b ∧ b ≠ a) (nd : l'.Nodup) (sp : Sp3 (OR K H (AA (GX G B) O) d) ys us l') : Stt K (upd H a (.lst us)) G ks (Mp.st env i (.lst ys)) σ (ow O i (a :: l')) := by
  have na : a ∉ l' := fun z => by
    rcases sub a z with q | q
    · have := S.nd i
      rw [ho] at this
      exact (List.nodup_cons.mp this).1 q
    · exact (hB a q).2 rfl
  refine S.put2 (B := B) (by rw [h]; intro z; cases z) hv (fun b o e n => ?_) (fun b e => ?_) (fun b hb => ?_) (fun b hb => (hB b hb).1) (List.nodup_cons.mpr ⟨na, nd⟩) ?_ (fun z => nomatch z)
  · rw [upd_ne (fun z => n (by rw [z, ho]; exact List.mem_cons_self))]
    exact e
  · by_cases z : b = a
    · subst z
      rw [upd_same] at e
      cases e
    · rw [upd_ne z] at e
      exact e
  · rcases List.mem_cons.mp hb with z | z
    · exact .inl (by rw [z, ho]; exact List.mem_cons_self)
    · exact (sub b z).imp (fun q => by rw [ho]; exact List.mem_cons_of_mem _ q) id
  · rw [hk]
    refine .inr ⟨n3, .inl ⟨ys, a, us, l', rfl, rfl, upd_same, rfl, ?_⟩⟩
    have ex : Ext (fun b => b = a) H (upd H a (.lst us)) := ⟨fun b o e n => by rw [upd_ne n]; exact e, fun b e => ⟨vs, e ▸ hl⟩⟩
    refine Sp3.impM (fun x v O1 sub1 q => q.step ex (fun b _ hb e => ?_) (fun b _ hb => ⟨hb.1.1, fun j z => ?_⟩) fun b hb e => na (e ▸ sub1 b hb)) sp
    · exact hb.2 i (by rw [ho, e]; exact List.mem_cons_self)
    · unfold ow at z
      split at z
      · rcases List.mem_cons.mp z with q | q
        · exact hb.2 i (by rw [ho, q]; exact List.mem_cons_self)
        · rcases sub b q with y | y
          · exact hb.2 i (by rw [ho]; exact List.mem_cons_of_mem _ y)
          · exact hb.1.2 y
      · exact hb.2 j z
end
section
variable {T : Tab} {N : List Str} {k : Nat} {X : Cx} {P : Par} {s : Sx} {ks : List Nat} {kd0 : List Nat} {fr0 : Nat} {io : List Nat} {kn kb : Option (List Nat)}
theorem lstThenO_goo {σ : L2.St} {H : Hp} {G : Addr → Prop} {O : Own} {M : List Nat} {D : Ends} {v : Val} {r : Mp.O} (g : GooO P kd0 fr0 io M kn kb D σ H G O (lstThenO v r)) : ∃ xs, v = .lst xs ∧ GooO P kd0 fr0 io M kn kb D σ H G O r := by
  cases v <;> first | (exact g.elim; done) | skip
  exact ⟨_, rfl, g⟩
theorem stO_goo {σ : L2.St} {H : Hp} {G : Addr → Prop} {O : Own} {M : List Nat} {D : Ends} {i : Nat} {o : Option Val} {e : Env} (g : GooO P kd0 fr0 io M kn kb D σ H G O (stO i o e)) : ∃ v, o = some v ∧ GooO P kd0 fr0 io M kn kb D σ H G O (.nx (Mp.st e i v)) := by
  cases o with
  | none => exact g.elim
  | some v => exact ⟨v, rfl, g⟩
theorem lim_lt {n : Nat} (h : Nat.ble n LIM = true) : n < sizeLine := Nat.lt_of_le_of_lt (Nat.le_of_ble_eq_true h) (by rw [sizeLine_eq]; decide)
theorem snds_app {i : Nat} {m : E} : SndS T N k kd0 fr0 io (.app i m) := by
  intro X P s ks kn kb st cx hc hw
  unfold chkS at hc
  split at hc
  · rename_i x p0 n p y q pos
    simp only [Bool.and_eq_true] at hc
    obtain ⟨⟨⟨⟨⟨c1, c2⟩, c3⟩, c4⟩, c5⟩, c6⟩ := hc
    have c1 := eq_of_beq c1
    subst c1
    unfold wfS at hw
    split at hw
    · rename_i hok
      cases hw
      simp only [Bool.and_eq_true, Bool.not_eq_true'] at hok
      obtain ⟨⟨⟨w1, w2⟩, w3⟩, w4⟩ := hok
      have hk := Nat.le_of_ble_eq_true w1
      have ni : i ∉ muts m := fun z => by
        rw [List.contains_iff_mem.mpr z] at w4
        cases w4
      refine (ps_expr (pos := pos) (pe_bm PySem.F.plainAttrs_list PySem.F.slot_list_append PySem.F.type_list_append mt_append (pe_slot cx.cx c3 c4) (pa_cons (newE_pe cx.cx c6 w3) pa_nil (noStar_each c5)) rfl (by rw [noStar_each c5]; rfl) c2 (noStar_each c5) rfl) rfl).imp fun D σ H ⟨G, O, env, S, g⟩ => ?_
      have g : GooO P kd0 fr0 io (mutsS (.app i m)) (some ks) kb D σ H G O (lstThenO (gt env i) (bindO (ev P.C m env) fun y e1 => stO i (appV (gt e1 i) y) e1)) := g
      obtain ⟨xs0, h0, g⟩ := lstThenO_goo g
      obtain ⟨a, vs0, O0, d0, hd0, hv0, hl0, ho0, sp0, n30⟩ := slot_list S hk h0
      refine ⟨.ref a, hv0, .inl ⟨rfl, vs0, SqL.of hl0⟩, ?_⟩
      refine bindO_F (M := mutsS (.app i m)) S (fun _ h => List.mem_cons_of_mem _ h) g fun x e1 v H1 O1 p1 n _ g0 => ?_
      obtain ⟨u, hu, g0⟩ := stO_goo g0
      obtain ⟨Ow, n1, n2, n3, n4⟩ := n
      cases hx : gt e1 i <;> rw [hx] at hu <;> first | (have hu' : (none : Option Val) = some u := hu; cases hu'; done) | skip
      rename_i xs
      have hu : (if Nat.ble xs.length LIM then some (Val.lst (xs ++ [x])) else none) = some u := hu
      split at hu
      · rename_i hlim
        cases hu
        obtain ⟨b, vs, O', d, hd, hv, hl, ho, sp, n3'⟩ := slot_list n4 hk hx
        rw [hv0] at hv
        cases hv
        have len := sp.length
        have hdd : d0 = d := by omega
        rw [hd] at n1
        have ed : d + 1 - 1 = d := rfl
        rw [ed] at n1
        have dis : ∀ c, c ∈ Ow → c ∉ O1 i := fun c hc => (n3 c hc).2.2 i
        have ndi := n4.nd i
        rw [ho] at ndi
        obtain ⟨nd1, nd2⟩ := List.nodup_cons.mp ndi
        have S2 := n4.wr2 (us := vs ++ [v]) (ys := xs ++ [x]) (l' := O' ++ Ow) hx hd n3' hv0 hl ho (fun c hc => List.mem_append.mp hc) (fun c hc => ⟨(n3 c hc).2.1, fun e => dis c hc (by rw [ho, e]; exact List.mem_cons_self)⟩)
          (List.nodup_append.mpr ⟨nd2, n2, fun c hc c2 hc2 e => dis c2 hc2 (by rw [← e, ho]; exact List.mem_cons_of_mem _ hc)⟩) (Sp3.app n1 sp)
        refine ⟨a, vs, v, rfl, rfl, hl, ?_, ?_⟩
        · rw [len]; exact lim_lt hlim
        · refine g0 σ _ _ (((Mv.of p1).mono fun _ h => List.mem_cons_of_mem _ h).write (i := i) List.mem_cons_self (by rw [ho]; exact List.mem_cons_self) fun c hc => ?_) S2
          rcases List.mem_cons.mp hc with e | e
          · exact .inl (by rw [e, ho]; exact List.mem_cons_self)
          · rcases List.mem_append.mp e with e | e
            · exact .inl (by rw [ho]; exact List.mem_cons_of_mem _ e)
            · exact .inr (n3 c e).1
      · cases hu
    · cases hw
  · cases hc
end
end Mp
set_option Elab.async false
set_option linter.all false
set_option maxRecDepth 10000
/-! # Mp: items stored. -/
namespace Mp
open PySem PySem.Spec PyProof.Rows L2
section
variable {T : Tab} {N : List Str} {k : Nat} {X : Cx} {P : Par} {s : Sx} {ks : List Nat} {kd0 : List Nat} {fr0 : Nat} {io : List Nat} {kn kb : Option (List Nat)}
theorem ixN_lt {n : Nat} {i : Int} {j : Nat} (h : L2.ixN n i = some j) : j < n := (ixN_seq h).2.1
theorem setV_some {w v u : Val} {c : Int} (h : setV w c v = some u) : ∃ xs j, w = .lst xs ∧ L2.ixN xs.length c = some j ∧ u = .lst (xs.set j v) := by
  cases w <;> first | (have h' : (none : Option Val) = some u := h; cases h'; done) | skip
  rename_i xs
  have h : (setL xs c v).map Val.lst = some u := h
  unfold setL at h
  split at h
  · rename_i j hj
    cases h
    exact ⟨xs, j, rfl, hj, rfl⟩
  · cases h
/-- a new value is carried along -/
theorem carry {K : PySem.W.Frag} {H1 H2 : Hp} {G : Addr → Prop} {M : List Nat} {O1 O2 : Own} {e1 e2 : Env} {σ : L2.St} {Ow : List Addr} {d : Nat} {x : Val} {v : V} (S : Stt K H1 (GX G Ow) ks e1 σ O1) (p : Pst K H1 (GX G Ow) ks O1 M e2 σ H2 O2) (h : OR K H1 (AA (GX G Ow) O1) d x v Ow) (ho : ∀ a, a ∈ Ow → ∀ i, a ∉ O1 i) :
    OR K H2 (AA (GX G Ow) O2) d x v Ow ∧ ∀ a, a ∈ Ow → ∀ i, a ∉ O2 i := by
  refine ⟨h.step (p.toExt S) (fun a _ h ⟨i, _, z⟩ => h.2 i z) (fun a n h => ⟨h.1, fun i z => ?_⟩) fun a ha ⟨i, _, z⟩ => ho a ha i z, fun a ha i z => ?_⟩
  · rcases p.new i a z with y | y
    · exact h.2 i y
    · exact n y
  · rcases p.new i a z with y | y
    · exact ho a ha i y
    · obtain ⟨us, hu⟩ := h.there a ha
      rw [y] at hu
      cases hu
theorem snds_sub1 {i : Nat} {ix m : E} : SndS T N k kd0 fr0 io (.sub1 i ix m) := by
  intro X P s ks kn kb st cx hc hw
  unfold chkS at hc
  split at hc
  · rename_i x p0 y p1 e pos
    simp only [Bool.and_eq_true] at hc
    obtain ⟨⟨⟨⟨⟨c1, c2⟩, c3⟩, c4⟩, c5⟩, c6⟩ := hc
    unfold wfS at hw
    split at hw
    · rename_i hok
      cases hw
      simp only [Bool.and_eq_true, Bool.not_eq_true'] at hok
      obtain ⟨⟨⟨⟨w1, w2⟩, w3⟩, w4⟩, w5⟩ := hok
      have hk := Nat.le_of_ble_eq_true w1
      have ni : i ∉ muts ix := fun z => by
        rw [List.contains_iff_mem.mpr z] at w5
        cases w5
      have hm1 : ∀ j, j ∈ muts m → j ∈ mutsS (.sub1 i ix m) := fun j h => List.mem_cons_of_mem _ (app_r h)
      have hm2 : ∀ j, j ∈ muts ix → j ∈ mutsS (.sub1 i ix m) := fun j h => List.mem_cons_of_mem _ (app_l h)
      refine (ps_asg (pos := pos) (newE_pe cx.cx c6 w3) (pg_sub (pos := p1) (pe_slot cx.cx c1 c2) (sndE T N k ix X P s ks y cx.cx c5 w4).pe set_list (fun v => by cases y <;> first | rfl | cases c3)) (sole_sw c4) rfl rfl).imp fun D σ H ⟨G, O, env, S, g⟩ => ?_
      refine bindO_F (M := mutsS (.sub1 i ix m)) S hm1 g fun xv e1 v H1 O1 q1 n _ g0 => ?_
      obtain ⟨xs0, h0, g0⟩ := lstThenO_goo g0
      obtain ⟨Ow, n1, n2, n3, n4⟩ := n
      obtain ⟨a, vs0, O0, d0, hd0, hv0, hl0, ho0, sp0, n30⟩ := slot_list n4 hk h0
      refine ⟨.ref a, hv0, ⟨GX G Ow, O1, e1, n4, ?_⟩⟩
      cases hix : ev P.C ix e1 with
      | bad => rw [hix] at g0; exact g0.elim
      | exc y e => rw [hix] at g0; exact g0.elim
      | ok z e2 =>
        rw [hix] at g0
        cases z with
        | int c =>
          intro H2 O2 q2 w o2
          have ew := o2.int
          subst ew
          obtain ⟨u, hu, g0⟩ := stO_goo g0
          obtain ⟨xs, j, hx, hj, rfl⟩ := setV_some hu
          obtain ⟨b, vs, O', d, hd, hv, hl, ho, sp, n3'⟩ := slot_list q2.st hk hx
          rw [hv0] at hv
          cases hv
          have len := sp.length
          obtain ⟨n1', dis⟩ := carry n4 q2 n1 (fun a ha => (n3 a ha).2.2)
          rw [hd] at n1'
          have ed : d + 1 - 1 = d := rfl
          rw [ed] at n1'
          obtain ⟨w', A1, A2, A3, r1, r2, r3, r4, r5⟩ := Sp3.set n1' sp (List.getElem?_eq_getElem (ixN_lt hj))
          have ndi := q2.st.nd i
          rw [ho] at ndi
          obtain ⟨nd1, nd2⟩ := List.nodup_cons.mp ndi
          have nd3 := (List.nodup_append.mp (r4.nodup_iff.mp nd2)).2.1
          have sub1 : ∀ c, c ∈ A1 → c ∈ O' := fun c hc => r4.mem_iff.mpr (List.mem_append_right _ hc)
          have S2 := q2.st.wr2 (us := vs.set j v) (ys := xs.set j xv) (l' := A3) hx hd n3' hv0 hl ho (fun c hc => (List.mem_append.mp (r5.mem_iff.mp hc)).elim .inr fun h => .inl (sub1 c h)) (fun c hc => ⟨(n3 c hc).2.1, fun e => dis c hc i (by rw [ho, e]; exact List.mem_cons_self)⟩)
            (r5.nodup_iff.mpr (List.nodup_append.mpr ⟨n2, nd3, fun c hc c2 hc2 e => dis c hc i (by rw [e, ho]; exact List.mem_cons_of_mem _ (sub1 c2 hc2))⟩)) r3
          refine ⟨a, vs, c, j, rfl, rfl, hl, by rw [len]; exact hj, ?_⟩
          refine g0 σ _ _ ((((Mv.of q1).mono hm1).trans ((Mv.of (q2.monoG fun a h => h.1)).mono hm2)).write (i := i) List.mem_cons_self (by rw [ho]; exact List.mem_cons_self) fun c hc => ?_) S2
          rcases List.mem_cons.mp hc with e | e
          · exact .inl (by rw [e, ho]; exact List.mem_cons_self)
          · rcases List.mem_append.mp (r5.mem_iff.mp e) with e | e
            · exact .inr (n3 c e).1
            · exact .inl (by rw [ho]; exact List.mem_cons_of_mem _ (sub1 c e))
        | _ => exact g0.elim
    · cases hw
  · cases hc
end
end Mp
set_option Elab.async false
set_option linter.all false
set_option maxRecDepth 10000
/-! # Mp: items of items stored. -/
namespace Mp
open PySem PySem.Spec PyProof.Rows L2
theorem Sp3.upd {Pr : Val → V → List Addr → Prop} : ∀ {xs : List Val} {vs : List V} {O : List Addr} {j : Nat} {y : Val}, Sp3 Pr xs vs O → O.Nodup → xs[j]? = some y → ∃ w Oy, vs[j]? = some w ∧ Pr y w Oy ∧ (∀ a, a ∈ Oy → a ∈ O) ∧
    ∀ (Pr' : Val → V → List Addr → Prop) (y' : Val), Pr' y' w Oy → (∀ x v O1, (∀ a, a ∈ O1 → a ∈ O ∧ a ∉ Oy) → Pr x v O1 → Pr' x v O1) → Sp3 Pr' (xs.set j y') vs O
  | [], _, _, _, _, _, _, h => by simp at h
  | x :: xs, _, _, 0, y, ⟨v, r, O1, O2, e1, e2, p, t⟩, nd, h => by
    subst e1 e2
    simp at h
    subst h
    obtain ⟨_, _, dis⟩ := List.nodup_append.mp nd
    exact ⟨v, O1, rfl, p, fun a ha => List.mem_append_left _ ha, fun Pr' y' hy f => ⟨v, r, O1, O2, rfl, rfl, hy, t.impM fun x v O3 sub q => f x v O3 (fun a ha => ⟨List.mem_append_right _ (sub a ha), fun z => dis a z a (sub a ha) rfl⟩) q⟩⟩
  | x :: xs, _, _, j + 1, y, ⟨v, r, O1, O2, e1, e2, p, t⟩, nd, h => by
    subst e1 e2
    obtain ⟨_, nd2, dis⟩ := List.nodup_append.mp nd
    obtain ⟨w, Oy, h1, h2, h3, h4⟩ := Sp3.upd (j := j) t nd2 (by simpa using h)
    exact ⟨w, Oy, by simpa using h1, h2, fun a ha => List.mem_append_right _ (h3 a ha), fun Pr' y' hy f => ⟨v, r, O1, O2, rfl, rfl, f x v O1 (fun a ha => ⟨List.mem_append_left _ ha, fun z => dis a ha a (h3 a z) rfl⟩) p,
      h4 Pr' y' hy fun x v O3 sub q => f x v O3 (fun a ha => ⟨List.mem_append_right _ (sub a ha).1, (sub a ha).2⟩) q⟩⟩
theorem ow_self (O : Own) (i : Nat) : ow O i (O i) = O := by
  funext j
  unfold ow
  split
  · rename_i e
    rw [e]
  · rfl
theorem onAt_some {w u : Val} {c : Int} {f : Val → Option Val} (h : onAt w c f = some u) : ∃ xs j z z', w = .lst xs ∧ L2.ixN xs.length c = some j ∧ xs[j]? = some z ∧ f z = some z' ∧ u = .lst (xs.set j z') := by
  cases w <;> first | (have h' : (none : Option Val) = some u := h; cases h'; done) | skip
  rename_i xs
  unfold onAt at h
  simp only at h
  split at h
  · rename_i z hz
    split at h
    · rename_i z' hf
      obtain ⟨j, h1, h2⟩ := atI_some hz
      obtain ⟨ys, j', e1, e2, e3⟩ := setV_some h
      cases e1
      rw [h1] at e2
      cases e2
      exact ⟨xs, j, z, z', rfl, h1, h2, hf, e3⟩
    · cases h
  · cases h
section
variable {T : Tab} {N : List Str} {k : Nat} {X : Cx} {P : Par} {s : Sx} {ks : List Nat} {kd0 : List Nat} {fr0 : Nat} {io : List Nat} {kn kb : Option (List Nat)}
theorem atThenO_goo {σ : L2.St} {H : Hp} {G : Addr → Prop} {O : Own} {M : List Nat} {D : Ends} {v : Val} {c : Int} {r : Mp.O} (g : GooO P kd0 fr0 io M kn kb D σ H G O (atThenO v c r)) : ∃ xs z, v = .lst xs ∧ L2.atI xs c = some z ∧ GooO P kd0 fr0 io M kn kb D σ H G O r := by
  unfold atThenO at g
  split at g
  · split at g
    · rename_i xs _ z hz
      exact ⟨_, _, rfl, hz, g⟩
    · exact g.elim
  · exact g.elim
theorem snds_sub2 {i : Nat} {ix iy m : E} : SndS T N k kd0 fr0 io (.sub2 i ix iy m) := by
  intro X P s ks kn kb st cx hc hw
  unfold chkS at hc
  split at hc
  · rename_i x p0 y p1 z p2 e pos
    simp only [Bool.and_eq_true] at hc
    obtain ⟨⟨⟨⟨⟨⟨⟨c1, c2⟩, c3⟩, c3'⟩, c4⟩, c5⟩, c5'⟩, c6⟩ := hc
    unfold wfS at hw
    split at hw
    · rename_i hok
      cases hw
      simp only [Bool.and_eq_true, Bool.not_eq_true'] at hok
      obtain ⟨⟨⟨⟨⟨w1, w3⟩, w4⟩, w4'⟩, w5⟩, w5'⟩ := hok
      have hk2 := Nat.eq_of_beq_eq_true w1
      have hk : 1 ≤ kd ks i := by omega
      have ni : i ∉ muts iy := fun z => by
        rw [List.contains_iff_mem.mpr z] at w5'
        cases w5'
      have hm1 : ∀ j, j ∈ muts m → j ∈ mutsS (.sub2 i ix iy m) := fun j h => List.mem_cons_of_mem _ (app_r (app_r h))
      have hm2 : ∀ j, j ∈ muts ix → j ∈ mutsS (.sub2 i ix iy m) := fun j h => List.mem_cons_of_mem _ (app_l h)
      have hm3 : ∀ j, j ∈ muts iy → j ∈ mutsS (.sub2 i ix iy m) := fun j h => List.mem_cons_of_mem _ (app_r (app_l h))
      refine (ps_asg (pos := pos) (newE_pe cx.cx c6 w3) (pg_sub (pos := p2) (pe_ix (pos := p1) ix_seq (pe_slot cx.cx c1 c2) (sndE T N k ix X P s ks y cx.cx c5 w4).pe (noSlice_ix c3)) (sndE T N k iy X P s ks z cx.cx c5' w4').pe set_list (fun v => by cases z <;> first | rfl | cases c3')) (sole_sw c4) rfl rfl).imp fun D σ H ⟨G, O, env, S, g⟩ => ?_
      refine bindO_F (M := mutsS (.sub2 i ix iy m)) S hm1 g fun xv e1 v H1 O1 q1 n g1 _ => ?_
      have vr1 := n.vr
      obtain ⟨xs0, h0, g1⟩ := lstThenO_goo g1
      obtain ⟨a, vs0, O0, d0, hd0, hv0, hl0, ho0, sp0, n30⟩ := slot_list q1.st hk h0
      refine ⟨.ref a, hv0, ⟨G, O1, e1, q1.st, ?_⟩⟩
      cases hix : ev P.C ix e1 with
      | bad => rw [hix] at g1; exact g1.elim
      | exc y e => rw [hix] at g1; exact g1.elim
      | ok z e2 =>
        rw [hix] at g1
        cases z with
        | int c =>
          intro H2 O2 q2 w o2
          have ew := o2.int
          subst ew
          have g2 := GooO.shift (Mv.of q2) hm2 (fun _ h => h) g1
          obtain ⟨xs2, z2, hx2, hz2, g2⟩ := atThenO_goo g2
          obtain ⟨b, vs, O', d, hd, hv, hl, ho, sp, n3'⟩ := slot_list q2.st hk hx2
          rw [hv0] at hv
          cases hv
          obtain ⟨j, hj1, hj2⟩ := atI_some hz2
          obtain ⟨vb, Ob, hvb, _, _⟩ := sp.get hj2
          rw [cx.cx.K]
          refine .inl ⟨a, vs, c, vb, rfl, rfl, SqL.of hl, atI_mk sp.length hj1 hvb, ⟨G, O2, e2, q2.st, ?_⟩⟩
          cases hiy : ev P.C iy e2 with
          | bad => rw [hiy] at g2; exact g2.elim
          | exc y e => rw [hiy] at g2; exact g2.elim
          | ok z3 e3 =>
            rw [hiy] at g2
            cases z3 with
            | int c2 =>
              intro H3 O3 q3 w3 o3
              have ew := o3.int
              subst ew
              have g3 := GooO.shift (Mv.of q3) hm3 (fun _ h => h) g2
              obtain ⟨u, hu, g3⟩ := stO_goo g3
              obtain ⟨xs3, j3, zi, zi', hx3, hj3, hzi, hzi', rfl⟩ := onAt_some hu
              obtain ⟨ys, j4, rfl, hj4, rfl⟩ := setV_some hzi'
              obtain ⟨b, vs3, O'3, d3, hd3, hv, hl3, ho3, sp3, n33⟩ := slot_list q3.st hk hx3
              rw [hv0] at hv
              cases hv
              have hd1 : d3 = 1 := by omega
              subst hd1
              have ev : vs3 = vs := by
                have := q3.ext a _ hl fun k hk z => ni (by
                  have e := q2.st.dj k i a z (by rw [ho]; exact List.mem_cons_self)
                  rw [← e]; exact hk)
                rw [hl3] at this
                cases this
                rfl
              subst ev
              have ndi := q3.st.nd i
              rw [ho3] at ndi
              obtain ⟨nd1, nd2⟩ := List.nodup_cons.mp ndi
              have lens : xs3.length = xs2.length := by rw [← sp3.length, sp.length]
              obtain ⟨w', Oy, r1, r2, r3, r4⟩ := sp3.upd nd2 hzi
              rw [lens] at hj3
              rw [hj1] at hj3
              cases hj3
              rw [hvb] at r1
              cases r1
              rcases r2 with ⟨ys', b, us, Ob', e1, rfl, hb, hOy, spb⟩ | ⟨nl, _, _⟩
              · cases e1
                have vr3 := q3.vr q2.st (q2.vr q1.st vr1)
                have bO : b ∈ O3 i := by rw [ho3]; exact List.mem_cons_of_mem _ (r3 b (by rw [hOy]; exact List.mem_cons_self))
                have ba : a ≠ b := fun e => nd1 (e ▸ r3 b (by rw [hOy]; exact List.mem_cons_self))
                obtain ⟨vu, eO⟩ := spb.of0
                subst eO
                have ex : Ext (fun c => c = b) H3 (upd H3 b (.lst (us.set j4 v))) := ⟨fun c o h n => by rw [upd_ne n]; exact h, fun c h => ⟨us, h ▸ hb⟩⟩
                have nb : ∀ c, H3 c ≠ none → AA G O3 c → ¬ c = b := fun c _ h e => h.2 i (e ▸ bO)
                have spn : Sp3 (OR P.K (upd H3 b (.lst (us.set j4 v))) (AA G O3) 1) (xs3.set j (.lst (ys.set j4 xv))) vs3 O'3 := r4 _ _ (.inl ⟨_, b, us.set j4 v, [], rfl, rfl, upd_same, hOy, Sp3.to0 ((vu.set j4 vr3).step ex nb fun _ _ h => h)⟩)
                  (fun x v O1' sub q => q.step ex nb (fun _ _ h => h) fun c hc e => (sub c hc).2 (by rw [e, hOy]; exact List.mem_cons_self))
                have e1 : ∀ (c : Addr) (o : HO), H3 c = some o → c ∉ O3 i → (upd H3 b (.lst (us.set j4 v))) c = some o := fun c o h n => by
                  have e : c ≠ b := fun e => n (by rw [e]; exact bO)
                  rw [upd_ne e]
                  exact h
                have e2 : ∀ c : Addr, (upd H3 b (.lst (us.set j4 v))) c = none → H3 c = none := fun c h => by
                  by_cases e : c = b
                  · subst e; rw [upd_same] at h; cases h
                  · rw [upd_ne e] at h; exact h
                have pp := Pst.put (l := O3 i) (x' := .lst (xs3.set j (.lst (ys.set j4 xv)))) (H' := upd H3 b (.lst (us.set j4 v))) q3.st (by rw [hx3]; intro z; cases z) hv0 e1 e2 (fun c hc => .inl hc) (q3.st.nd i) (by
                  rw [ow_self, hd3]
                  refine .inr ⟨by decide, .inl ⟨_, a, vs3, O'3, rfl, rfl, ?_, ho3, spn⟩⟩
                  rw [upd_ne ba]
                  exact hl3) (fun z => nomatch z)
                refine ⟨b, us, c2, j4, rfl, rfl, hb, by rw [vu.length]; exact hj4, ?_⟩
                exact g3 σ _ _ ((Mv.of pp).mono fun q hq => by rw [List.mem_singleton.mp hq]; exact List.mem_cons_self) pp.st
              · exact absurd rfl (nl ys)
            | _ => exact g2.elim
        | _ => exact g1.elim
    · cases hw
  · cases hc
theorem atLstO_goo {σ : L2.St} {H : Hp} {G : Addr → Prop} {O : Own} {M : List Nat} {D : Ends} {v : Val} {c : Int} {r : Mp.O} (g : GooO P kd0 fr0 io M kn kb D σ H G O (atLstO v c r)) : ∃ xs ys, v = .lst xs ∧ L2.atI xs c = some (.lst ys) ∧ GooO P kd0 fr0 io M kn kb D σ H G O r := by
  unfold atLstO at g
  split at g
  · split at g
    · rename_i xs _ z hz
      cases z <;> first | (exact g.elim; done) | skip
      exact ⟨_, _, rfl, hz, g⟩
    · exact g.elim
  · exact g.elim
theorem appV_some {w v u : Val} (h : appV w v = some u) : ∃ xs, w = .lst xs ∧ Nat.ble xs.length LIM = true ∧ u = .lst (xs ++ [v]) := by
  cases w <;> first | (have h' : (none : Option Val) = some u := h; cases h'; done) | skip
  rename_i xs
  have h : (if Nat.ble xs.length LIM then some (Val.lst (xs ++ [v])) else none) = some u := h
  split at h
  · rename_i hl
    cases h
    exact ⟨xs, rfl, hl, rfl⟩
  · cases h
theorem snds_app1 {i : Nat} {ix m : E} : SndS T N k kd0 fr0 io (.app1 i ix m) := by
  intro X P s ks kn kb st cx hc hw
  unfold chkS at hc
  split at hc
  · rename_i x p0 y p1 n p z q pos
    simp only [Bool.and_eq_true] at hc
    obtain ⟨⟨⟨⟨⟨⟨⟨c1, c2⟩, c3⟩, c4⟩, c5⟩, c6⟩, c7⟩, c8⟩ := hc
    have c1 := eq_of_beq c1
    subst c1
    unfold wfS at hw
    split at hw
    · rename_i hok
      cases hw
      simp only [Bool.and_eq_true, Bool.not_eq_true'] at hok
      obtain ⟨⟨⟨⟨w1, w3⟩, w4⟩, w5⟩, w6⟩ := hok
      have hk2 := Nat.eq_of_beq_eq_true w1
      have hk : 1 ≤ kd ks i := by omega
      have ni : i ∉ muts m := fun z => by
        rw [List.contains_iff_mem.mpr z] at w6
        cases w6
      have hm1 : ∀ j, j ∈ muts m → j ∈ mutsS (.app1 i ix m) := fun j h => List.mem_cons_of_mem _ (app_r h)
      have hm2 : ∀ j, j ∈ muts ix → j ∈ mutsS (.app1 i ix m) := fun j h => List.mem_cons_of_mem _ (app_l h)
      refine (ps_expr (pos := pos) (pe_bm PySem.F.plainAttrs_list PySem.F.slot_list_append PySem.F.type_list_append mt_append (pe_ix (pos := p1) ix_seq (pe_slot cx.cx c3 c4) (sndE T N k ix X P s ks y cx.cx c7 w4).pe (noSlice_ix c5)) (pa_cons (newE_pe cx.cx c8 w3) pa_nil (noStar_each c6)) rfl (by rw [noStar_each c6]; rfl) c2 (noStar_each c6) rfl) rfl).imp fun D σ H ⟨G, O, env, S, g⟩ => ?_
      have g : GooO P kd0 fr0 io (mutsS (.app1 i ix m)) (some ks) kb D σ H G O (lstThenO (gt env i) (bindOI (ev P.C ix env) fun k e1 => atLstO (gt e1 i) k (bindO (ev P.C m e1) fun y e2 => stO i (onAt (gt e2 i) k fun z => appV z y) e2))) := g
      obtain ⟨xs0, h0, g1⟩ := lstThenO_goo g
      obtain ⟨a, vs0, O0, d0, hd0, hv0, hl0, ho0, sp0, n30⟩ := slot_list S hk h0
      refine ⟨.ref a, hv0, ⟨G, O, env, S, ?_⟩⟩
      cases hix : ev P.C ix env with
      | bad => rw [hix] at g1; exact g1.elim
      | exc y e => rw [hix] at g1; exact g1.elim
      | ok z e2 =>
        rw [hix] at g1
        cases z with
        | int c =>
          intro H2 O2 q2 w o2
          have ew := o2.int
          subst ew
          have g2 := GooO.shift (Mv.of q2) hm2 (fun _ h => h) g1
          obtain ⟨xs2, ys2, hx2, hz2, g2⟩ := atLstO_goo g2
          obtain ⟨b0, vs, O', d, hd, hv, hl, ho, sp, n3'⟩ := slot_list q2.st hk hx2
          rw [hv0] at hv
          cases hv
          obtain ⟨j, hj1, hj2⟩ := atI_some hz2
          obtain ⟨vb, Ob, hvb, hOb, _⟩ := sp.get hj2
          rw [cx.cx.K]
          have hd0 : d = 1 := by omega
          subst hd0
          rcases hOb with ⟨ys', b, us, Ob', e1, rfl, hb, hOy, spb⟩ | ⟨nl, _, _⟩
          · cases e1
            refine .inl ⟨a, vs, c, .ref b, rfl, rfl, SqL.of hl, atI_mk sp.length hj1 hvb, .inl ⟨rfl, us, SqL.of hb⟩, ?_⟩
            refine bindO_F (M := mutsS (.app1 i ix m)) q2.st hm1 g2 fun xv e3 v H3 O3 q3 n g3 _ => ?_
            have vr1 := n.vr
            obtain ⟨u, hu, g3⟩ := stO_goo g3
            obtain ⟨xs3, j3, zi, zi', hx3, hj3, hzi, hzi', rfl⟩ := onAt_some hu
            obtain ⟨ys, rfl, hlim, rfl⟩ := appV_some hzi'
            obtain ⟨b1, vs3, O'3, d3, hd3, hv, hl3, ho3, sp3, n33⟩ := slot_list q3.st hk hx3
            rw [hv0] at hv
            cases hv
            have hd1 : d3 = 1 := by omega
            subst hd1
            have ev : vs3 = vs := by
              have := q3.ext a _ hl fun k hk z => ni (by
                have e := q2.st.dj k i a z (by rw [ho]; exact List.mem_cons_self)
                rw [← e]; exact hk)
              rw [hl3] at this
              cases this
              rfl
            subst ev
            have ndi := q3.st.nd i
            rw [ho3] at ndi
            obtain ⟨nd1, nd2⟩ := List.nodup_cons.mp ndi
            have lens : xs3.length = xs2.length := by rw [← sp3.length, sp.length]
            obtain ⟨w', Oy, r1, r2, r3, r4⟩ := sp3.upd nd2 hzi
            rw [lens] at hj3
            rw [hj1] at hj3
            cases hj3
            rw [hvb] at r1
            cases r1
            rcases r2 with ⟨ys', b2, us3, Ob2, e1, e2, hb3, hOy3, spb3⟩ | ⟨nl, _, _⟩
            · cases e1
              cases e2
              have bO : b ∈ O3 i := by rw [ho3]; exact List.mem_cons_of_mem _ (r3 b (by rw [hOy3]; exact List.mem_cons_self))
              have ba : a ≠ b := fun e => nd1 (e ▸ r3 b (by rw [hOy3]; exact List.mem_cons_self))
              obtain ⟨vu, eO⟩ := spb3.of0
              subst eO
              have ex : Ext (fun c => c = b) H3 (upd H3 b (.lst (us3 ++ [v]))) := ⟨fun c o h n => by rw [upd_ne n]; exact h, fun c h => ⟨us3, h ▸ hb3⟩⟩
              have nb : ∀ c, H3 c ≠ none → AA G O3 c → ¬ c = b := fun c _ h e => h.2 i (e ▸ bO)
              have spn : Sp3 (OR P.K (upd H3 b (.lst (us3 ++ [v]))) (AA G O3) 1) (xs3.set j (.lst (ys ++ [xv]))) vs3 O'3 := r4 _ _ (.inl ⟨_, b, us3 ++ [v], [], rfl, rfl, upd_same, hOy3, Sp3.to0 ((vu.append (.cons vr1 .nil)).step ex nb fun _ _ h => h)⟩)
                (fun x v O1' sub q => q.step ex nb (fun _ _ h => h) fun c hc e => (sub c hc).2 (by rw [e, hOy3]; exact List.mem_cons_self))
              have e1 : ∀ (c : Addr) (o : HO), H3 c = some o → c ∉ O3 i → (upd H3 b (.lst (us3 ++ [v]))) c = some o := fun c o h n => by
                have e : c ≠ b := fun e => n (by rw [e]; exact bO)
                rw [upd_ne e]
                exact h
              have e2 : ∀ c : Addr, (upd H3 b (.lst (us3 ++ [v]))) c = none → H3 c = none := fun c h => by
                by_cases e : c = b
                · subst e; rw [upd_same] at h; cases h
                · rw [upd_ne e] at h; exact h
              have pp := Pst.put (l := O3 i) (x' := .lst (xs3.set j (.lst (ys ++ [xv])))) (H' := upd H3 b (.lst (us3 ++ [v]))) q3.st (by rw [hx3]; intro z; cases z) hv0 e1 e2 (fun c hc => .inl hc) (q3.st.nd i) (by
                rw [ow_self, hd3]
                refine .inr ⟨by decide, .inl ⟨_, a, vs3, O'3, rfl, rfl, ?_, ho3, spn⟩⟩
                rw [upd_ne ba]
                exact hl3) (fun z => nomatch z)
              refine ⟨b, us3, v, rfl, rfl, hb3, by rw [vu.length]; exact lim_lt hlim, ?_⟩
              exact g3 σ _ _ ((Mv.of pp).mono fun q hq => by rw [List.mem_singleton.mp hq]; exact List.mem_cons_self) pp.st
            · exact absurd rfl (nl ys)
          · exact absurd rfl (nl ys2)
        | _ => exact g1.elim
    · cases hw
  · cases hc
end
end Mp
set_option Elab.async false
set_option linter.all false
set_option maxRecDepth 10000
/-! # Mp: blocks, if, while, for. -/
namespace Mp
open PySem PySem.Spec PyProof.Rows L2
section
variable {T : Tab} {N : List Str} {k : Nat} {X : Cx} {P : Par} {s : Sx} {ks : List Nat} {kd0 : List Nat} {fr0 : Nat} {io M M2 : List Nat} {kn kb : Option (List Nat)}
theorem GooO.sub {σ : L2.St} {H : Hp} {G : Addr → Prop} {O : Own} {D : Ends} {r : Mp.O} (g : GooO P kd0 fr0 io M kn kb D σ H G O r) (h : ∀ i, i ∈ M2 → i ∈ M) : GooO P kd0 fr0 io M2 kn kb D σ H G O r := GooO.shift (M1 := []) Mv.refl (fun _ z => nomatch z) h g
theorem GooO.none {σ : L2.St} {H : Hp} {G : Addr → Prop} {O : Own} {D : Ends} {r : Mp.O} (g : GooO P kd0 fr0 io M kn kb D σ H G O r) : GooO P kd0 fr0 io M none kb D σ H G O r := by
  cases r with
  | nx e => exact True.intro
  | brk e => exact g
  | ret v e => exact g
  | exc x e => exact g
  | bad => exact g
theorem sndSs_nil : SndSs T N k kd0 fr0 io [] := by
  intro X P s ks kn kb st cx hc hw
  cases st with
  | cons _ _ => unfold chkSs at hc; cases hc
  | nil =>
    unfold wfSs at hw
    cases hw
    exact pss_nil.imp fun D σ H ⟨G, O, env, S, g⟩ => g σ H O Mv.refl S
/-- the first of two -/
theorem GooO.seq {σ : L2.St} {H : Hp} {G : Addr → Prop} {O : Own} {D D' : Ends} {kn' : Option (List Nat)} {o : Mp.O} {kk : Env → Mp.O} (g : GooO P kd0 fr0 io M kn kb D σ H G O (seqO o kk)) (h : ∀ i, i ∈ M2 → i ∈ M) (hb : D'.bk = D.bk) (hr : D'.rt = D.rt)
    (hn : ∀ e k', o = .nx e → kn' = some k' → ∀ σ' H' O', Mv io M2 H O σ H' O' σ' → Stt P.K H' G k' e σ' O' → D'.nx σ' H') : GooO P kd0 fr0 io M2 kn' kb D' σ H G O o := by
  cases o with
  | nx e =>
    cases kn' with
    | none => exact True.intro
    | some k' => exact hn e k' rfl rfl
  | brk e =>
    have g : GooO P kd0 fr0 io M kn kb D σ H G O (.brk e) := g
    cases kb with
    | none => exact True.intro
    | some k' => exact fun σ' H' O' q S => by rw [hb]; exact g σ' H' O' (q.mono h) S
  | ret v e => exact fun ksr env' σ' H' O' Ow w q S hp ho nd ha => by rw [hr]; exact g ksr env' σ' H' O' Ow w (q.mono h) S hp ho nd ha
  | exc x e => exact g
  | bad => exact g
theorem sndSs_cons {a : S} {r : List S} (ia : isSkip a = false → SndS T N k kd0 fr0 io a) (ir : SndSs T N k kd0 fr0 io r) : SndSs T N k kd0 fr0 io (a :: r) := by
  intro X P s ks kn kb st cx hc hw
  unfold chkSs at hc
  unfold wfSs at hw
  have hmr : ∀ i, i ∈ mutsSs r → i ∈ mutsSs (a :: r) := fun i h => app_r h
  have hma : ∀ i, i ∈ mutsS a → i ∈ mutsSs (a :: r) := fun i h => app_l h
  cases hs : isSkip a with
  | true =>
    rw [hs, if_pos rfl] at hc
    cases a <;> first | (cases hs; done) | skip
    · rename_i i
      split at hw
      · rename_i k1 hk1
        unfold wfS at hk1
        split at hk1
        · rename_i hok
          cases hk1
          simp only [Bool.and_eq_true, Bool.not_eq_true'] at hok
          have hi := okSlot_of hok.1
          have k3 : kd ks i ≠ 3 := fun e => by
            have := hok.2
            rw [e] at this
            cases this
          refine (ir X P s _ kn kb st cx hc hw).imp fun D σ H ⟨G, O, env, S, g⟩ => ?_
          have mv : Mv io [i] H O σ H (ow O i []) σ := ⟨fun _ _ h _ => h, fun _ h => h, fun q hq => ow_ne O _ (by simpa using hq), fun q a ha => by
            unfold ow at ha
            split at ha
            · cases ha
            · exact .inl ⟨q, ha, .inl rfl⟩, fun _ _ => rfl, rfl⟩
          exact ⟨G, _, env, S.fz hi.1 k3, GooO.shift mv hma hmr g⟩
        · cases hk1
      · rename_i hno
        exfalso
        unfold wfS at hw hno
        split at hw
        · rename_i hok
          rw [if_pos hok] at hno
          exact hno _ rfl
        · cases hw
    · rename_i is
      split at hw
      · rename_i k1 hk1
        unfold wfS at hk1
        split at hk1
        · rename_i hok
          cases hk1
          simp only [Bool.and_eq_true] at hok
          refine (ir X P s _ kn kb st cx hc hw).imp fun D σ H ⟨G, O, env, S, g⟩ => ?_
          obtain ⟨O', S', hO⟩ := clr_ok S hok.1 hok.2
          have mv : Mv io is H O σ H O' σ := ⟨fun _ _ h _ => h, fun _ h => h, fun q hq => (hO q).elim id fun h => absurd h.1 hq, fun q a ha => (by
            rcases hO q with e | ⟨_, e⟩
            · rw [e] at ha; exact .inl ⟨q, ha, .inl rfl⟩
            · rw [e] at ha; cases ha), fun _ _ => rfl, rfl⟩
          exact ⟨G, _, _, S', GooO.shift mv hma hmr g⟩
        · cases hk1
      · rename_i hno
        exfalso
        unfold wfS at hw hno
        split at hw
        · rename_i hok
          rw [if_pos hok] at hno
          exact hno _ rfl
        · cases hw
  | false =>
    rw [hs, if_neg (by decide)] at hc
    cases st with
    | nil => cases hc
    | cons x xr =>
      simp only [Bool.and_eq_true] at hc
      split at hw
      · rename_i k1 hk1
        refine (pss_cons (ia hs X P s ks (some k1) kb x cx hc.1 hk1) (ir X P s k1 kn kb xr cx hc.2 hw)).imp fun D σ H ⟨G, O, env, S, g⟩ => ?_
        refine ⟨G, O, env, S, ?_⟩
        have g : GooO P kd0 fr0 io (mutsSs (a :: r)) kn kb D σ H G O (seqO (ex P.C a env) (exs P.C r)) := g
        show GooO P kd0 fr0 io (mutsS a) (some k1) kb { D with nx := rdSs P kd0 fr0 io k1 kn kb r D } σ H G O (ex P.C a env)
        refine g.seq hma rfl rfl fun e k' ho hk' σ' H' O' mv S' => ?_
        cases hk'
        rw [ho] at g
        exact ⟨G, O', e, S', GooO.shift mv hma hmr g⟩
      · rename_i hno
        have hk1' : wfS T kd0 fr0 io a ks kb = some kn := hw
        cases kn with
        | some k1 => exact absurd hk1' (hno k1)
        | none =>
          refine (pss_cons (ia hs X P s ks none kb x cx hc.1 hk1') pss_never).imp fun D σ H ⟨G, O, env, S, g⟩ => ?_
          refine ⟨G, O, env, S, ?_⟩
          have g : GooO P kd0 fr0 io (mutsSs (a :: r)) none kb D σ H G O (seqO (ex P.C a env) (exs P.C r)) := g
          show GooO P kd0 fr0 io (mutsS a) none kb { D with nx := tNever D } σ H G O (ex P.C a env)
          exact g.seq hma rfl rfl fun e k' _ hk' => nomatch hk'

theorem snds_ite {c : E} {a b : List S} (ia : SndSs T N k kd0 fr0 io a) (ib : SndSs T N k kd0 fr0 io b) : SndS T N k kd0 fr0 io (.ite c a b) := by
  intro X P s ks kn kb st cx hc hw
  unfold chkS at hc
  split at hc
  · rename_i t x y pos
    simp only [Bool.and_eq_true] at hc
    unfold wfS at hw
    split at hw
    · rename_i hwc
      -- the kinds behind either branch
      have key : ∃ ka kb', wfSs T kd0 fr0 io a ks kb = some ka ∧ wfSs T kd0 fr0 io b ks kb = some kb' ∧ (ka = kn ∨ ka = none) ∧ (kb' = kn ∨ kb' = none) := by
        split at hw
        · rename_i k1 k2 h1 h2
          split at hw
          · rename_i he
            cases hw
            have e := eqK_eq he
            subst e
            exact ⟨_, _, h1, h2, .inl rfl, .inl rfl⟩
          · cases hw
        · rename_i k2 h1 h2
          cases hw
          exact ⟨_, _, h1, h2, .inr rfl, .inl rfl⟩
        · rename_i k1 _ h1 h2
          cases hw
          exact ⟨_, _, h1, h2, .inl rfl, .inr rfl⟩
        · cases hw
      obtain ⟨ka, kb', h1, h2, e1, e2⟩ := key
      refine (ps_if (pos := pos) (sndE T N k c X P s ks t cx.cx hc.1.1 hwc).pt (ia X P s ks ka kb x cx hc.1.2 h1) (ib X P s ks kb' kb y cx hc.2 h2)).imp fun D σ H ⟨G, O, env, S, g⟩ => ?_
      rw [ex_ite] at g
      refine bindO_T (M := mutsS (.ite c a b)) S (fun _ h => app_l h) g fun d e1' H1 O1 p g1 => ?_
      cases d with
      | true =>
        refine ⟨G, O1, e1', p.st, ?_⟩
        have q := GooO.sub (M2 := mutsSs a) g1 (fun _ h => app_r (app_l h))
        rcases e1 with e | e
        · subst e; exact q
        · subst e; exact q.none
      | false =>
        refine ⟨G, O1, e1', p.st, ?_⟩
        have q := GooO.sub (M2 := mutsSs b) g1 (fun _ h => app_r (app_r h))
        rcases e2 with e | e
        · subst e; exact q
        · subst e; exact q.none
    · cases hw
  · cases hc
/-- a turn: its body, then the rest -/
theorem GooO.turn {σ : L2.St} {H : Hp} {G : Addr → Prop} {O : Own} {D D' : Ends} {kn' : Option (List Nat)} {o : Mp.O} {kk : Env → Mp.O} (g : GooO P kd0 fr0 io M (some ks) kb D σ H G O (turnO o kk)) (h : ∀ i, i ∈ M2 → i ∈ M) (hb : D'.bk = D.nx) (hr : D'.rt = D.rt)
    (hn : ∀ e k', o = .nx e → kn' = some k' → ∀ σ' H' O', Mv io M2 H O σ H' O' σ' → Stt P.K H' G k' e σ' O' → D'.nx σ' H') : GooO P kd0 fr0 io M2 kn' (some ks) D' σ H G O o := by
  cases o with
  | nx e =>
    cases kn' with
    | none => exact True.intro
    | some k' => exact hn e k' rfl rfl
  | brk e =>
    have g : GooO P kd0 fr0 io M (some ks) kb D σ H G O (.nx e) := g
    exact fun σ' H' O' q S => by rw [hb]; exact g σ' H' O' (q.mono h) S
  | ret v e => exact fun ksr env' σ' H' O' Ow w q S hp ho nd ha => by rw [hr]; exact g ksr env' σ' H' O' Ow w (q.mono h) S hp ho nd ha
  | exc x e => exact g
  | bad => exact g
theorem snds_whl {n : Nat} {c : E} {b : List S} (ib : SndSs T N k kd0 fr0 io b) : SndS T N k kd0 fr0 io (.whl n c b) := by
  intro X P s ks kn kb st cx hc hw
  unfold chkS at hc
  split at hc
  · rename_i t x pos
    simp only [Bool.and_eq_true] at hc
    unfold wfS at hw
    split at hw
    · rename_i hwc
      have key : ∃ kb', kn = some ks ∧ wfSs T kd0 fr0 io b ks (some ks) = some kb' ∧ (kb' = some ks ∨ kb' = none) := by
        split at hw
        · rename_i k1 h1
          split at hw
          · rename_i he
            cases hw
            have e := eqK_eq he
            subst e
            exact ⟨_, rfl, h1, .inl rfl⟩
          · cases hw
        · rename_i h1
          cases hw
          exact ⟨_, rfl, h1, .inr rfl⟩
        · cases hw
      obtain ⟨kb', rfl, h1, e1⟩ := key
      refine (ps_while (pos := pos) cx.hp (sndE T N k c X P s ks t cx.cx hc.1 hwc).pt (ib X P s ks kb' (some ks) x cx hc.2 h1)).imp fun D σ H ⟨G, O, env, S, g⟩ => ?_
      rw [ex_whl] at g
      refine ⟨fun m σ H => ∃ O env, Stt P.K H G ks env σ O ∧ GooO P kd0 fr0 io (mutsS (.whl n c b)) (some ks) kb D σ H G O (whlN (ev P.C c) (exs P.C b) m env), ⟨n, O, env, S, g⟩, ?_⟩
      rintro m σ1 H1 ⟨O1, env1, S1, g1⟩
      cases m with
      | zero => exact g1.elim
      | succ m =>
        rw [whlN_succ] at g1
        refine bindO_T (M := mutsS (.whl n c b)) S1 (fun _ h => app_l h) g1 fun d e2 H2 O2 p g2 => ?_
        cases d with
        | false =>
          have g2 : GooO P kd0 fr0 io (mutsS (.whl n c b)) (some ks) kb D σ1 H2 G O2 (.nx e2) := g2
          exact g2 σ1 H2 O2 Mv.refl p.st
        | true =>
          have g2 : GooO P kd0 fr0 io (mutsS (.whl n c b)) (some ks) kb D σ1 H2 G O2 (turnO (exs P.C b e2) (whlN (ev P.C c) (exs P.C b) m)) := g2
          refine ⟨fun σ' H' => ∃ O env, Stt P.K H' G ks env σ' O ∧ GooO P kd0 fr0 io (mutsS (.whl n c b)) (some ks) kb D σ' H' G O (whlN (ev P.C c) (exs P.C b) m env), fun σ' H' h => ⟨m, Nat.lt_succ_self m, h⟩, G, O2, e2, p.st, ?_⟩
          refine g2.turn (fun _ h => app_r h) rfl rfl fun e3 k' ho hk' σ' H' O' mv S' => ?_
          rcases e1 with e | e
          · subst e
            cases hk'
            rw [ho] at g2
            exact ⟨O', e3, S', GooO.shift mv (fun _ h => app_r h) (fun _ h => h) g2⟩
          · subst e
            cases hk'
    · cases hw
  · cases hc
end
end Mp
set_option Elab.async false
set_option linter.all false
set_option maxRecDepth 10000
/-! # Mp: for; every statement is what it does. -/
namespace Mp
open PySem PySem.Spec PyProof.Rows L2
section
variable {T : Tab} {N : List Str} {k : Nat} {X : Cx} {P : Par} {s : Sx} {ks : List Nat} {kd0 : List Nat} {fr0 : Nat} {io M M2 : List Nat} {kn kb : Option (List Nat)}
theorem Oprs.keepM {K : PySem.W.Frag} {G : Addr → Prop} {M : List Nat} {H1 H : Hp} {O1 O : Own} {e1 : Env} {σ σ' : L2.St} (S1 : Stt K H1 G ks e1 σ O1) (p : Mv io M H1 O1 σ H O σ') :
    ∀ {srcs : List E} {xs : List Val} {vs : List V}, awayL ks srcs M = true → Oprs K H1 G ks O1 σ srcs xs vs → Oprs K H G ks O σ srcs xs vs
  | [], _, _, _, h => h
  | e :: es, xs, vs, aw, ⟨x, xr, v, vr, h1, h2, h3, t⟩ => by
    unfold awayL at aw
    simp only [Bool.and_eq_true] at aw
    refine ⟨x, xr, v, vr, h1, h2, ?_, Oprs.keepM S1 p aw.2 t⟩
    cases hio : isIoOf e with
    | some i => rw [hio] at h3; exact h3
    | none =>
      rw [hio] at h3
      have ex : Ext (fun a => ∃ i, i ∈ M ∧ a ∈ O1 i) H1 H := ⟨fun a o e n => p.ext a o e fun i hi z => n ⟨i, hi, z⟩, fun a ⟨i, _, z⟩ => S1.there z⟩
      have m : ∀ a, H1 a ≠ none → AA G O1 a → AA G O a := fun a n h => ⟨h.1, fun i z => by
        rcases p.new i a z with ⟨j, y, _⟩ | y
        · exact h.2 j y
        · exact n y⟩
      have nn : ∀ a, H1 a ≠ none → AA G O1 a → ¬ ∃ i, i ∈ M ∧ a ∈ O1 i := fun a _ h ⟨i, _, z⟩ => h.2 i z
      have h3 : Opr K H1 G O1 (ud ks e) (root e) x v := h3
      show Opr K H G O (ud ks e) (root e) x v
      rcases h3 with ⟨Or, so, ho⟩ | h3
      · have key : root e ∉ M ∨ Or = [] := by
          rcases away_of aw.1 with u | u
          · rw [u] at so
            rcases so with ⟨e3, _⟩ | ⟨_, q⟩
            · cases e3
            · exact .inr q.2
          · exact .inl u
        refine .inl ⟨Or, so.step ex nn m fun a ha ⟨i, hi, z⟩ => ?_, fun a ha => ?_⟩
        · rcases key with u | u
          · have := S1.dj i (root e) a z (ho a ha)
            subst this
            exact u hi
          · rw [u] at ha; cases ha
        · rcases key with u | u
          · rw [p.own _ u]; exact ho a ha
          · rw [u] at ha; cases ha
      · exact .inr (h3.step ex nn m)
theorem Yl.stt {K : PySem.W.Frag} {G : Addr → Prop} {H H' : Hp} {O : Own} {env : Env} {σ : L2.St} (y : Yl H H') (S : Stt K H G ks env σ O) : Stt K H' G ks env σ O ∧ Mv io M H O σ H' O σ := by
  rcases y with e | ⟨p, o, hp, e⟩
  · subst e
    exact ⟨S, Mv.refl⟩
  · subst e
    exact ⟨S.laid hp, Mv.of (Pst.laid S hp)⟩
theorem forI_goo {σ : L2.St} {H : Hp} {G : Addr → Prop} {O : Own} {D : Ends} {t : Tgt} {b : Env → Mp.O} {e : Env} {o : Option (List Val)} (g : GooO P kd0 fr0 io M kn kb D σ H G O (forI t b e o)) : ∃ zs, o = some zs ∧ GooO P kd0 fr0 io M kn kb D σ H G O (forN t b zs e) := by
  cases o with
  | none => exact g.elim
  | some zs => exact ⟨zs, rfl, g⟩
theorem snds_loop {t : Tgt} {kk : Src} {srcs : List E} {b : List S} (ib : SndSs T N k kd0 fr0 io b) : SndS T N k kd0 fr0 io (.loop t kk srcs b) := by
  intro X P s ks kn kb st cx hc hw
  unfold chkS at hc
  split at hc
  · rename_i tg iter x pos
    simp only [Bool.and_eq_true] at hc
    obtain ⟨⟨⟨c1, c2⟩, c3⟩, c4⟩ := hc
    unfold wfS at hw
    split at hw
    · rename_i hok
      simp only [Bool.and_eq_true] at hok
      obtain ⟨⟨⟨⟨⟨w1, w2⟩, w3⟩, w4⟩, w5⟩, w6⟩ := hok
      have key : ∃ kb', kn = some ks ∧ wfSs T kd0 fr0 io b ks (some ks) = some kb' ∧ (kb' = some ks ∨ kb' = none) := by
        split at hw
        · rename_i k1 h1
          split at hw
          · rename_i he
            cases hw
            have e := eqK_eq he
            subst e
            exact ⟨_, rfl, h1, .inl rfl⟩
          · cases hw
        · rename_i h1
          cases hw
          exact ⟨_, rfl, h1, .inr rfl⟩
        · cases hw
      obtain ⟨kb', rfl, h1, ekb⟩ := key
      have tio : ∀ p, p ∈ io → p ∉ t.slots := fun p hp z => (okSlots_io w4 z).2 hp
      have mB : ∀ i, i ∈ t.slots ++ mutsSs b → i ∈ mutsS (.loop t kk srcs b) := fun i h => (List.mem_append.mp h).elim (fun h => app_l h) fun h => app_r (app_r h)
      refine (ps_for (pos := pos) cx.hp cx.cx.calm (pi_src (t := t) cx.cx (fun a _ => sndE T N k a) c2 c3 w1 w2 w3) (pg_tgt cx.cx c3) (ib X P s ks kb' (some ks) x cx c4 h1) (noSet_fold c1)).imp fun D σ H ⟨G, O, env, S, g⟩ => ?_
      rw [ex_loop] at g
      have g : GooO P kd0 fr0 io (mutsS (.loop t kk srcs b)) (some ks) kb D σ H G O (bindO (evs P.C srcs env) fun vs e1 => forI t (exs P.C b) e1 (items kk vs)) := g
      refine ⟨G, O, env, S, ?_⟩
      cases hs : evs P.C srcs env with
      | bad => rw [hs] at g; exact g
      | exc y e => rw [hs] at g; exact g.elim
      | ok xs e1 =>
        rw [hs] at g
        intro H1 O1 p1
        obtain ⟨zs, hzs, g1⟩ := forI_goo (GooO.shift (Mv.of p1) (fun _ h => app_r (app_l h)) (fun _ h => h) g)
        refine ⟨zs, hzs, fun vs o1 J wk => ?_⟩
        refine ⟨fun i m σ' H' => m = zs.length - i ∧ i ≤ zs.length ∧ ∃ O' env', Mv io (t.slots ++ mutsSs b) H1 O1 σ H' O' σ' ∧ Stt P.K H' G ks env' σ' O' ∧ GooO P kd0 fr0 io (mutsS (.loop t kk srcs b)) (some ks) kb D σ' H' G O' (forN t (exs P.C b) (zs.drop i) env'),
          ⟨zs.length, by simp, Nat.zero_le _, O1, e1, Mv.refl, p1.st, g1⟩, ?_⟩
        rintro i m σ' H' ⟨rfl, hi, O', env', mv, S', g'⟩
        have oM := o1.keepM p1.st mv w6
        obtain ⟨wgo, wstop⟩ := wk _ _ _ oM i
        by_cases hlt : i < zs.length
        · have hzi : zs[i]? = some zs[i] := List.getElem?_eq_getElem hlt
          obtain ⟨hgo, hy⟩ := wgo _ hzi
          refine .inr ⟨hgo, fun σ2 H2 => ∃ m', m' < zs.length - i ∧ (m' = zs.length - (i + 1) ∧ i + 1 ≤ zs.length ∧ ∃ O' env', Mv io (t.slots ++ mutsSs b) H1 O1 σ H2 O' σ2 ∧ Stt P.K H2 G ks env' σ2 O' ∧ GooO P kd0 fr0 io (mutsS (.loop t kk srcs b)) (some ks) kb D σ2 H2 G O' (forN t (exs P.C b) (zs.drop (i + 1)) env')), fun σ2 H2 h => h, fun y H'' hyl => ?_⟩
          obtain ⟨yl, iv⟩ := hy y H'' hyl
          obtain ⟨S2, mv2⟩ := Yl.stt (io := io) (M := t.slots ++ mutsSs b) yl S'
          rw [List.drop_eq_getElem_cons hlt, forN_cons] at g'
          cases hb : bindT t zs[i] env' with
          | none => rw [hb] at g'; exact g'.elim
          | some env1 =>
            rw [hb] at g'
            have g' : GooO P kd0 fr0 io (mutsS (.loop t kk srcs b)) (some ks) kb D σ' H' G O' (turnO (exs P.C b env1) (forN t (exs P.C b) (zs.drop (i + 1)))) := g'
            rw [cx.cx.K]
            refine bindT_ok S2 w5 iv hb fun σ3 S3 len3 same3 => ?_
            have mv3 : Mv io (t.slots ++ mutsSs b) H' O' σ' H'' O' σ3 := mv2.trans ⟨fun _ _ h _ => h, fun _ h => h, fun _ _ => rfl, fun q a ha => .inl ⟨q, ha, .inl rfl⟩, fun p hp => same3 p (tio p hp), len3⟩
            have g3 := GooO.shift mv3 mB (fun _ h => h) g'
            refine ⟨G, O', env1, S3, ?_⟩
            refine g3.turn (fun _ h => app_r (app_r h)) rfl rfl fun e4 k' ho hk' σ4 H4 O4 mv4 S4 => ?_
            rcases ekb with e | e
            · subst e
              cases hk'
              rw [ho] at g3
              exact ⟨zs.length - (i + 1), by omega, rfl, hlt, O4, e4, (mv.trans mv3).trans (mv4.mono fun _ h => app_r h), S4, GooO.shift mv4 (fun _ h => app_r (app_r h)) (fun _ h => h) g3⟩
            · subst e
              cases hk'
        · have e : i = zs.length := by omega
          refine .inl ⟨wstop e, ?_⟩
          rw [e, List.drop_length] at g'
          have g' : GooO P kd0 fr0 io (mutsS (.loop t kk srcs b)) (some ks) kb D σ' H' G O' (.nx env') := g'
          exact g' σ' H' O' Mv.refl S'
    · cases hw
  · cases hc
theorem sndS (T : Tab) (N : List Str) (k : Nat) (kd0 : List Nat) (fr0 : Nat) (io : List Nat) (m : S) : isSkip m = false → SndS T N k kd0 fr0 io m :=
  S.rec (motive_1 := fun m => isSkip m = false → SndS T N k kd0 fr0 io m) (motive_2 := fun l => SndSs T N k kd0 fr0 io l)
    (fun _ _ _ _ => snds_asg) (fun _ _ _ => snds_mv) (fun _ h => nomatch h) (fun _ _ _ => snds_asgT) (fun _ _ _ _ => snds_par) (fun _ _ _ _ => snds_sub1) (fun _ _ _ _ _ => snds_sub2) (fun _ _ _ => snds_app)
    (fun _ _ _ _ => snds_app1) (fun _ _ => snds_ex) (fun _ _ _ h1 h2 _ => snds_ite h1 h2) (fun _ _ _ h _ => snds_whl h) (fun _ _ _ _ h _ => snds_loop h)
    (fun _ _ => snds_ret) (fun _ => snds_retN) (fun _ => snds_brk) (fun _ => snds_pass) (fun _ _ _ => snds_raise) (fun _ h => nomatch h) sndSs_nil (fun _ _ h1 h2 => sndSs_cons h1 h2) m
theorem sndSs (T : Tab) (N : List Str) (k : Nat) (kd0 : List Nat) (fr0 : Nat) (io : List Nat) : ∀ l : List S, SndSs T N k kd0 fr0 io l
  | [] => sndSs_nil
  | a :: r => sndSs_cons (sndS T N k kd0 fr0 io a) (sndSs T N k kd0 fr0 io r)
end
end Mp
set_option Elab.async false
set_option linter.all false
set_option maxRecDepth 10000
/-! # Mp: a def is what it computes. -/
namespace Mp
open PySem PySem.Spec PyProof.Rows L2
theorem gt_outEnv : ∀ (ks : List Nat) (e : Env) (p : Nat), gt (outEnv ks (outsOf ks e)) p = if kd ks p ≠ 0 then gt e p else .undef
  | [], e, p => by simp [outEnv, kd]
  | 0 :: kr, [], p => by
    have ih := gt_outEnv kr []
    cases p with
    | zero => simp [outEnv, kd]
    | succ p =>
      have e : outsOf (0 :: kr) [] = [] := rfl
      have e2 : outsOf kr [] = [] := by cases kr <;> rfl
      rw [e]
      have := ih p
      rw [e2] at this
      show gt (outEnv kr []) p = _
      rw [this]
      simp [kd]
  | 0 :: kr, v :: r, p => by
    cases p with
    | zero => simp [outEnv, kd]
    | succ p =>
      show gt (outEnv kr (outsOf kr r)) p = _
      rw [gt_outEnv kr r p]
      simp [kd]
  | (k + 1) :: kr, [], p => by
    have e2 : outsOf kr [] = [] := by cases kr <;> rfl
    have ih := gt_outEnv kr [] 
    rw [e2] at ih
    cases p with
    | zero => show Val.undef = _; simp
    | succ p =>
      show gt (outEnv kr []) p = _
      rw [ih p]
      simp [kd]
  | (k + 1) :: kr, v :: r, p => by
    cases p with
    | zero =>
      show v = _
      simp [kd]
    | succ p =>
      show gt (outEnv kr (outsOf kr r)) p = _
      rw [gt_outEnv kr r p]
      simp [kd]
theorem outEnv_len : ∀ (ks : List Nat) (os : List Val), (outEnv ks os).length = ks.length
  | [], _ => rfl
  | 0 :: kr, os => by unfold outEnv; simp [outEnv_len kr os]
  | (k + 1) :: kr, [] => by unfold outEnv; simp [outEnv_len kr []]
  | (k + 1) :: kr, v :: r => by unfold outEnv; simp [outEnv_len kr r]
theorem kd_pos {ks : List Nat} {p : Nat} : kd ks p ≠ 0 ↔ p ∈ ioS ks 0 := by
  rw [mem_ioS]
  constructor
  · intro h
    refine ⟨p, kd ks p - 1, by omega, ?_⟩
    unfold kd at h ⊢
    rw [List.getD_eq_getElem?_getD] at h ⊢
    cases q : ks[p]? with
    | none => rw [q] at h; exact absurd rfl h
    | some k =>
      rw [q] at h
      show some k = some (k - 1 + 1)
      have : k ≠ 0 := h
      congr 1
      omega
  · rintro ⟨q, k, h1, h2⟩
    have e : p = q := by omega
    subst e
    rw [kd_get h2]
    omega
/-- what alone is handed back -/
def keepO (ks : List Nat) (O : Own) : Own := fun p => if p ∈ ioS ks 0 then O p else []
section
variable {K : PySem.W.Frag} {H H' : Hp} {G : Addr → Prop} {ks0 ksr : List Nat} {O O' : Own} {M : List Nat} {e env' : Env} {σ σ' : L2.St} {vs : List V} {B : List Addr}
theorem out_stt (S' : Stt K H' (GX G B) ksr env' σ' O') (hp : ∀ p, p ∈ ioS ks0 0 → gt env' p = gt e p ∧ kd ksr p = kd ks0 p) (hs : ∀ p, p ∈ ioS ks0 0 → σ'[p]? = (vs.map some)[p]?) (hl : ks0.length ≤ vs.length) :
    Stt K H' (GX G B) ks0 (outEnv ks0 (outsOf ks0 e)) (vs.map some) (keepO ks0 O') := by
  have aa : ∀ a, AA (GX G B) O' a → AA (GX G B) (keepO ks0 O') a := fun a h => ⟨h.1, fun p z => by
    unfold keepO at z
    split at z
    · exact h.2 p z
    · cases z⟩
  refine ⟨fun p hz => ?_, fun p hz => ?_, fun p => ?_, fun p q a h1 h2 => ?_, fun p a h => ?_, S'.fresh, by rw [outEnv_len, List.length_map]; exact hl⟩
  · rw [gt_outEnv] at hz ⊢
    by_cases h : kd ks0 p ≠ 0
    · rw [if_pos h] at hz ⊢
      have io := kd_pos.mp h
      obtain ⟨q1, q2⟩ := hp p io
      rw [← q1] at hz ⊢
      obtain ⟨v, r1, r2⟩ := S'.slot p hz
      rw [hs p io] at r1
      refine ⟨v, r1, ?_⟩
      rw [q2] at r2
      have ek : keepO ks0 O' p = O' p := if_pos io
      rw [ek]
      exact r2.mono fun a _ h => aa a h
    · rw [if_neg h] at hz
      exact absurd rfl hz
  · unfold keepO
    split
    · rename_i io
      rw [gt_outEnv, if_pos (kd_pos.mpr io)] at hz
      rw [← (hp p io).1] at hz
      exact S'.emp p hz
    · rfl
  · unfold keepO
    split
    · exact S'.nd p
    · exact .nil
  · unfold keepO at h1 h2
    split at h1
    · split at h2
      · exact S'.dj p q a h1 h2
      · cases h2
    · cases h1
  · unfold keepO at h
    split at h
    · exact S'.own p a h
    · cases h
theorem out_pst (S : Stt K H G ks0 env' (vs.map some) O) (m : Mv (ioS ks0 0) M H O σ H' O' σ') (S' : Stt K H' G ks0 (outEnv ks0 (outsOf ks0 e)) (vs.map some) (keepO ks0 O')) : Pst K H G ks0 O (ioS ks0 0) (outEnv ks0 (outsOf ks0 e)) (vs.map some) H' (keepO ks0 O') := by
  have zo : ∀ p, p ∉ ioS ks0 0 → O p = [] := fun p hp => zero_own S (by
    by_cases h : kd ks0 p = 0
    · exact h
    · exact absurd (kd_pos.mp h) hp)
  refine ⟨fun a o h n => m.ext a o h fun i hi z => ?_, m.dom, fun p hp => ?_, fun p a h => ?_, S'⟩
  · by_cases io : i ∈ ioS ks0 0
    · exact n i io z
    · rw [zo i io] at z; cases z
  · unfold keepO
    rw [if_neg hp, zo p hp]
  · unfold keepO at h
    split at h
    · rename_i io
      rcases m.new p a h with ⟨j, h1, h2⟩ | h1
      · rcases h2 with h2 | h2
        · subst h2; exact .inl h1
        · exact absurd io h2.2.2.1
      · exact .inr h1
    · cases h
end
theorem env0_eq : ∀ (args : List Val) (n : Nat), env0 n args = args ++ undefs n
  | [], _ => rfl
  | v :: r, n => by rw [env0_cons, env0_eq r n]; rfl
theorem undefs_gt : ∀ (n i : Nat), gt (undefs n) i = .undef
  | 0, i => rfl
  | n + 1, 0 => rfl
  | n + 1, i + 1 => undefs_gt n i
theorem undefs_len : ∀ n : Nat, (undefs n).length = n
  | 0 => rfl
  | n + 1 => by unfold undefs; simp [undefs_len n]
theorem gt_env0 (args : List Val) (n i : Nat) : gt (env0 n args) i = gt args i := by
  rw [env0_eq]
  by_cases h : i < args.length
  · rw [gt_get, gt_get, List.getElem?_append_left h]
  · rw [gt_get, List.getElem?_append_right (by omega), ← gt_get, undefs_gt, gt_ge (by omega)]
def zers : Nat → List Nat
  | 0 => []
  | n + 1 => 0 :: zers n
theorem zers_kd : ∀ (n i : Nat), kd (zers n) i = 0
  | 0, i => rfl
  | n + 1, 0 => rfl
  | n + 1, i + 1 => zers_kd n i
theorem kd_app (a : List Nat) (n i : Nat) : kd (a ++ zers n) i = kd a i := by
  unfold kd
  rw [List.getD_eq_getElem?_getD, List.getD_eq_getElem?_getD]
  by_cases h : i < a.length
  · rw [List.getElem?_append_left h]
  · rw [List.getElem?_append_right (by omega), List.getElem?_eq_none (l := a) (by omega)]
    have := zers_kd n (i - a.length)
    unfold kd at this
    rw [List.getD_eq_getElem?_getD] at this
    exact this
theorem start_stt {K : PySem.W.Frag} {H : Hp} {G : Addr → Prop} {ks : List Nat} {O : Own} {args : List Val} {vs : List V} {N : List Str} {n : Nat} (S : Stt K H G ks args (vs.map some) O) (hn : N.length = vs.length + n) (ha : args.length = vs.length) : Stt K H G (ks ++ zers n) (env0 n args) (L2.start N vs) O := by
  refine ⟨fun i hi => ?_, fun i hi => ?_, S.nd, S.dj, S.own, S.fresh, ?_⟩
  · rw [gt_env0] at hi ⊢
    obtain ⟨v, h1, h2⟩ := S.slot i hi
    refine ⟨v, ?_, by rw [kd_app]; exact h2⟩
    unfold L2.start
    rw [List.getElem?_append_left (List.getElem?_eq_some_iff.mp h1).1]
    exact h1
  · rw [gt_env0] at hi
    exact S.emp i hi
  · rw [env0_eq, List.length_append, undefs_len]
    unfold L2.start
    rw [List.length_append, List.length_map, List.length_replicate]
    omega
/-- what is checked of a def -/
structure FnC (T : Tab) (fn : Fn) (N ps : List Str) (sc : Scope) (body : List Stmt) : Prop where
  eN : N = fn.names
  nd : N.Nodup
  len : N.length = fn.np + fn.nl
  eps : ps.length = fn.np
  kdl : fn.kd.length = fn.np
  kf : sc.kind = .function
  chk : chkSs T N fn.body ⟨sc, fun _ => true⟩ body = true
  wf : ∃ kn, wfSs T fn.kd fn.fr (ioS fn.kd 0) fn.body (fn.kd ++ zers fn.nl) none = some kn ∧ ∀ k, kn = some k → ioK fn.kd (ioS fn.kd 0) k = true
/-- a body's outcome, as the call's -/
theorem body_goo {P : Par} {fn : Fn} {H : Hp} {G : Addr → Prop} {O : Own} {args : List Val} {vs : List V} {N : List Str} {Q : VK} {E : XK} {kn : Option (List Nat)} {M : List Nat} {o : Mp.O} (S : Stt P.K H G fn.kd args (vs.map some) O) (hl : vs.length = fn.np) (hkd : fn.kd.length = fn.np)
    (hk : ∀ k, kn = some k → ioK fn.kd (ioS fn.kd 0) k = true) (g : GooC P fn H G O vs Q E (endO fn.kd o)) : GooO P fn.kd fn.fr (ioS fn.kd 0) M kn none { nx := fun _ H' => Q .non H', rt := Q } (L2.start N vs) H G O o := by
  have st0 : ∀ p, p ∈ ioS fn.kd 0 → (L2.start N vs)[p]? = (vs.map some)[p]? := fun p hp => by
    obtain ⟨q, k, h1, h2⟩ := mem_ioS.mp hp
    have := (List.getElem?_eq_some_iff.mp h2).1
    unfold L2.start
    rw [List.getElem?_append_left (by rw [List.length_map]; omega)]
  have zo : ∀ p, p ∉ ioS fn.kd 0 → O p = [] := fun p hp => zero_own S (by
    by_cases h : kd fn.kd p = 0
    · exact h
    · exact absurd (kd_pos.mp h) hp)
  cases o with
  | nx e =>
    cases kn with
    | none => exact True.intro
    | some k =>
      intro σ' H' O' mv S'
      have g : ∀ H' O' w, Pst P.K H G fn.kd O (ioS fn.kd 0) (outEnv fn.kd (outsOf fn.kd e)) (vs.map some) H' O' → NewV P.K H H' G fn.kd (outEnv fn.kd (outsOf fn.kd e)) (vs.map some) O' fn.fr .non w → Q w H' := g
      have S2 := out_stt (vs := vs) (e := e) (ks0 := fn.kd) S'.nil (fun p hp => ⟨rfl, ioK_of (hk k rfl) p hp⟩) (fun p hp => (mv.io p hp).trans (st0 p hp)) (by omega)
      have S3 := S2.mono (G' := G) fun a h => h.1
      exact g H' _ .non (out_pst S mv S3) (NewV.flat S3 (fun _ h => nomatch h) rfl)
  | brk e => exact True.intro
  | ret v e =>
    intro ksr env' σ' H' O' Ow w mv S' hp ho nd ha
    have g : ∀ H' O' w, Pst P.K H G fn.kd O (ioS fn.kd 0) (outEnv fn.kd (outsOf fn.kd e)) (vs.map some) H' O' → NewV P.K H H' G fn.kd (outEnv fn.kd (outsOf fn.kd e)) (vs.map some) O' fn.fr v w → Q w H' := g
    have S2 := out_stt (vs := vs) (e := e) (ks0 := fn.kd) S' hp (fun p hq => (mv.io p hq).trans (st0 p hq)) (by omega)
    have S3 := S2.mono (G' := G) fun a h => h.1
    have k1 : ∀ a, AA (GX G Ow) O' a → AA (GX G Ow) (keepO fn.kd O') a := fun a h => ⟨h.1, fun p z => by
      unfold keepO at z
      split at z
      · exact h.2 p z
      · cases z⟩
    have k2 : ∀ a, a ∈ Ow → H a = none := fun a hm => by
      rcases (ha a hm).1 with ⟨j, hj, q⟩ | q
      · rw [zo j hj] at q
        cases q
      · exact q
    have k3 : ∀ a, a ∈ Ow → ∀ p, a ∉ keepO fn.kd O' p := fun a hm p z => by
      unfold keepO at z
      split at z
      · exact (ha a hm).2.2 p z
      · cases z
    exact g H' _ w (out_pst S mv S3) ⟨Ow, ho.mono fun a _ h => k1 a h, nd, fun a hm => ⟨k2 a hm, (ha a hm).2.1, k3 a hm⟩, S2⟩
  | exc x e => exact g
  | bad => exact g
/-- the module's facts for a table -/
structure TabOk (T : Tab) (K : PySem.W.Frag) (mg : Str → Option Value) : Prop where
  cst : ∀ x v, T.consts.lookup x = some v → ∃ w u, mg x = some u ∧ RelV w u ∧ ∀ H A, VR K H A v w
  blt : ∀ x, T.blts.contains x = true → mg x = none
  fns : ∀ f fn, fnAt T.P f = some fn → ∃ (a : Addr) (fd : FuncData) (ps N : List Str) (qual : Str) (params : Arguments) (body : List Stmt) (scope : Scope), mg fn.name = some (.ref a) ∧ (∀ us : List Value, us.length = ps.length → bindArgs fd ⟨us, []⟩ = pure (ps.zip us)) ∧ FunD K fn.name qual params body scope [] [] a fd ∧ FnScope N ps scope ∧ FnC T fn N ps scope body
theorem callF_C (T : Tab) (K : PySem.W.Frag) (k : Nat) : ∃ P : Par, P.K = K ∧ P.C = callF T.P k := ⟨⟨K, callF T.P k, fun _ _ _ _ => False, fun _ _ _ _ => False⟩, rfl, rfl⟩
/-- the context at level k -/
noncomputable def parOf (T : Tab) (K : PySem.W.Frag) (k : Nat) (W : WX) : Par := ⟨K, callF T.P k, W, fun _ _ _ _ => False⟩
section
variable {T : Tab} {K : PySem.W.Frag} {mg : Str → Option Value} {base : Heap} {P : Program} {w : World}
theorem fns_ok (tab : TabOk T K mg) (W : WX) : ∀ k f fn, fnAt T.P f = some fn → ∀ (a : Addr) (fd : FuncData) (ps N : List Str) (qual : Str) (params : Arguments) (body : List Stmt) (scope : Scope), FunD K fn.name qual params body scope [] [] a fd → FnScope N ps scope → FnC T fn N ps scope body →
    FnOk P w K mg base (L2.CX P w) k a fd ps (spF (parOf T K k W) f fn) := by
  intro k
  induction k with
  | zero =>
    intro f fn hf a fd ps N qual params body scope F FS C
    refine ⟨fun vs H Q E ⟨args, G, O, h1, _⟩ => by rw [h1, C.eps], fun A outer s H args us vs Q E _ _ _ _ ⟨args', G, O, h1, h2, h3, h4, h5⟩ => h5.elim⟩
  | succ k ih =>
    intro f fn hf a fd ps N qual params body scope F FS C
    refine FunD.ok F FS (fun vs H Q E ⟨args, G, O, h1, _⟩ => by rw [h1, C.eps]) fun cdv A outer s H vs Q E room ⟨args, G, O, h1, h2, h3, h4, h5⟩ => ?_
    obtain ⟨kn, wf, hkn⟩ := C.wf
    have cx : CtxS T N k (cxOf (L2.CX P w) P w K mg base N qual scope a cdv A outer s H E) (parOf T K k fun cls d _ H => E cls d H) ⟨scope, fun _ => true⟩ := by
      refine ⟨⟨rfl, C.nd, rfl, fun _ _ => rfl, rfl, room, ?_, rfl, rfl, tab.cst, tab.blt, fun f fn hf => ?_⟩, ?_, C.kf⟩
      · exact L2.takes_of rfl rfl rfl rfl
      · obtain ⟨a, fd, ps, N, qual, params, body, scope, q1, q3, q4, q5, q6⟩ := tab.fns f fn hf
        exact ⟨a, fd, ps, q1, q4.kp, .all q3, ih f fn hf a fd ps N qual params body scope q4 q5 q6⟩
      · exact L2.passes_of rfl
    refine ⟨_, sndSs T N k fn.kd fn.fr (ioS fn.kd 0) fn.body _ _ _ (fn.kd ++ zers fn.nl) kn none body cx C.chk wf, ?_⟩
    refine ⟨G, O, env0 fn.nl args, start_stt h4 (by rw [C.len, h1]) (by rw [h2, h1]), ?_⟩
    refine body_goo (P := parOf T K (k + 1) W) (E := E) h4 h1 C.kdl hkn ?_
    have e : (parOf T K (k + 1) W).C f args = runFn (callF T.P k) fn args := by
      show callF T.P (k + 1) f args = _
      rw [callF_succ, hf]
      rfl
    rw [e] at h5
    exact h5
end
end Mp
set_option Elab.async false
set_option linter.all false
set_option maxRecDepth 10000
/-! # Mp: the law's end. -/
namespace Mp
open PySem PySem.Spec PyProof.Rows L2
theorem sqf_of {K : PySem.W.Frag} {H : Hp} {a : Addr} {xs : List V} (h : SqL K H a xs) (o : Only H) : SqF K H a xs := by
  rcases h with h | h
  · rcases h with h | h
    · rcases o a with q | ⟨_, _, q⟩
      · rw [q] at h; cases h
      · rw [q] at h; cases h
    · exact .inl h
  · exact .inr h
/-- the law, called with the script -/
theorem law_sp {T : Tab} {K : PySem.W.Frag} {k f : Nat} {fn : Fn} {W : WX} {ns : List Int} {a : Addr} {H : Hp} {E : XK} (hnp : fn.np = 1) (hkd : fn.kd = [3]) (hrun : ∃ outs, callF T.P k f [.opq 0 (ns.map .int)] = .ok (.bl true) outs) (hq : SqF K H a (ns.map V.int)) :
    spF (parOf T K k W) f fn [.ref a] H (fun v _ => v = .bl true) E := by
  refine ⟨[.opq 0 (ns.map .int)], fun _ => True, fun _ => [], hnp.symm, hnp.symm, fun i hi => ?_, ?_, ?_⟩
  · have e : i = 0 := by omega
    subst e
    exact fun z => nomatch z
  · rw [hkd]
    refine ⟨fun i hi => ?_, fun _ _ => rfl, fun _ => .nil, fun _ _ _ h => (nomatch h), fun _ _ h => (nomatch h), fun _ _ => True.intro, Nat.le_refl _⟩
    cases i with
    | zero => exact ⟨.ref a, rfl, .inl ⟨rfl, ⟨a, ns, rfl, rfl, hq⟩, rfl⟩⟩
    | succ i => exact absurd rfl hi
  · obtain ⟨outs, h⟩ := hrun
    have e : (parOf T K k W).C f [.opq 0 (ns.map .int)] = .ok (.bl true) outs := h
    rw [e]
    intro H' O' w _ n
    exact n.vr
end Mp
set_option Elab.async false
set_option linter.all false
set_option maxRecDepth 10000
/-! # Mp: the head's facts. -/
namespace Mp
open PySem PySem.Spec PyProof.Rows L2 He
mutual
def valB (K : PySem.W.Frag) : Val → Value → Bool
  | .non, u => (match u with | .none => true | _ => false)
  | .bl b, u => (match u with | .bool c => b == c | _ => false)
  | .int i, u => (match u with | .int j _ => i == j | _ => false)
  | .str s, u => (match u with | .str t _ => s == t && PyData.strOk s && Nat.ble s.length LIM | _ => false)
  | .tup xs, u => (match u with
    | .ref a => (match K.lookup a with
      | some ⟨.type c, none, .seq its _, _⟩ => (c == "tuple") && Nat.ble its.size sizeLine && valBs K xs its.toList
      | _ => false)
    | _ => false)
  | _, _ => false
def valBs (K : PySem.W.Frag) : List Val → List Value → Bool
  | [], us => (match us with | [] => true | _ => false)
  | x :: xs, us => (match us with | u :: ur => valB K x u && valBs K xs ur | [] => false)
end
mutual
theorem valB_ok {K : PySem.W.Frag} : ∀ {x : Val} {u : Value}, valB K x u = true → ∃ w, RelV w u ∧ ∀ H A, VR K H A x w
  | .non, u, h => by
    cases u <;> first | (simp [valB] at h; done) | skip
    exact ⟨.non, rfl, fun _ _ => rfl⟩
  | .bl b, u, h => by
    cases u <;> first | (simp [valB] at h; done) | skip
    simp [valB] at h
    subst h
    exact ⟨.bl b, rfl, fun _ _ => rfl⟩
  | .int i, u, h => by
    cases u <;> first | (simp [valB] at h; done) | skip
    simp [valB] at h
    subst h
    exact ⟨.int i, ⟨_, rfl⟩, fun _ _ => rfl⟩
  | .str s, u, h => by
    cases u <;> first | (simp [valB] at h; done) | skip
    rename_i t tk
    unfold valB at h
    simp only [Bool.and_eq_true] at h
    have e := eq_of_beq h.1.1
    subst e
    exact ⟨.str s, ⟨_, rfl⟩, fun _ _ => ⟨rfl, h.1.2, h.2⟩⟩
  | .tup xs, u, h => by
    cases u <;> first | (simp [valB] at h; done) | skip
    rename_i a
    unfold valB at h
    simp only at h
    split at h
    · rename_i c its n sl hl
      simp only [Bool.and_eq_true] at h
      have e := eq_of_beq h.1.1
      subst e
      obtain ⟨ws, r1, r2⟩ := valBs_ok h.2
      exact ⟨.ref a, rfl, fun H A => ⟨a, ws, rfl, .inr ⟨_, its, n, hl, rfl, rfl, rfl, Nat.le_of_ble_eq_true h.1.2, r1⟩, r2 H A⟩⟩
    · cases h
  | .lst _, u, h => by cases u <;> simp [valB] at h
  | .undef, u, h => by cases u <;> simp [valB] at h
  | .dct _ _, u, h => by cases u <;> simp [valB] at h
  | .opq _ _, u, h => by cases u <;> simp [valB] at h
theorem valBs_ok {K : PySem.W.Frag} : ∀ {xs : List Val} {us : List Value}, valBs K xs us = true → ∃ ws, Vals ws us ∧ ∀ H A, VRs K H A xs ws
  | [], us, h => by
    cases us with
    | nil => exact ⟨[], .nil, fun _ _ => rfl⟩
    | cons _ _ => simp [valBs] at h
  | x :: xs, us, h => by
    cases us with
    | nil => simp [valBs] at h
    | cons u ur =>
      unfold valBs at h
      simp only [Bool.and_eq_true] at h
      obtain ⟨w, r1, r2⟩ := valB_ok h.1
      obtain ⟨ws, q1, q2⟩ := valBs_ok h.2
      exact ⟨w :: ws, .cons r1 q1, fun H A => ⟨w, ws, rfl, r2 H A, q2 H A⟩⟩
end
/-- the constants stand there -/
def cstsB (cs : List (Str × Val)) (K : PySem.W.Frag) : Bool := cs.all fun p => (match PySem.W.nsIn K mainGlobals p.1 with
  | some (some u) => valB K p.2 u
  | _ => false)
abbrev AlM : Type := AlD × Bool
def obsM (n : Nat) (fa : List Fa) (fn : List DefD) (cs : List (Str × Val)) (g : Addr → Option Obj) : AlM := (obsD fa fn (frG g (asD g n)), cstsB cs (frG g (asD g n)))
def hookM (n : Nat) (fa : List Fa) (fn : List DefD) (cs : List (Str × Val)) : PySem.W.Hook where
  α := AlM
  obs := fun s => obsM n fa fn cs s.heap.get?
  val := fun _ => (valD fn, true)
  says := fun _ h => ∃ K : PySem.W.Frag, K.In h ∧ SaysD fa fn K ∧ cstsB cs K = true
  of := fun _ _ e => ⟨_, frG_in, congrArg (fun z : AlM => z.1) e, congrArg (fun z : AlM => z.2) e⟩
  keeps := fun _ _ _ ⟨K, hK, c⟩ k => ⟨K, PySem.W.Frag.In.keeps hK k, c⟩
theorem csts_ok {cs : List (Str × Val)} {K : PySem.W.Frag} {h : Heap} {mg : Str → Option Value} (X : K.In h) (G : h.Ns mainGlobals mg) (c : cstsB cs K = true) (x : Str) (v : Val) (hl : cs.lookup x = some v) : ∃ w u, mg x = some u ∧ RelV w u ∧ ∀ H A, VR K H A v w := by
  have hm : (x, v) ∈ cs := by
    clear c
    induction cs with
    | nil => cases hl
    | cons p r ih =>
      obtain ⟨y, w⟩ := p
      rw [List.lookup_cons] at hl
      split at hl
      · rename_i e
        have e := eq_of_beq e
        cases hl
        rw [e]
        exact List.mem_cons_self
      · exact List.mem_cons_of_mem _ (ih hl)
  have q := List.all_eq_true.mp c _ hm
  cases e : PySem.W.nsIn K mainGlobals x with
  | none => simp only [e] at q; cases q
  | some o =>
    cases o with
    | none => simp only [e] at q; cases q
    | some u =>
      simp only [e] at q
      obtain ⟨w, r1, r2⟩ := valB_ok q
      exact ⟨w, u, PySem.W.mg_of X G e, r1, r2⟩
theorem lookup_zip : ∀ {ps : List Str} {us : List Value}, us.length = ps.length → ps.Nodup → ∀ n, n ∈ ps → ((ps.zip us).lookup n).isSome = true := by
  intro ps
  induction ps with
  | nil => intro us _ _ n h; cases h
  | cons p r ih =>
    intro us hl nd n h
    cases us with
    | nil => cases hl
    | cons u ur =>
      rw [List.zip_cons_cons, List.lookup_cons]
      split
      · rfl
      · rename_i e
        rcases List.mem_cons.mp h with q | q
        · subst q
          rw [beq_self_eq_true] at e
          cases e
        · exact ih (by simpa using hl) (List.nodup_cons.mp nd).2 n q
theorem filterMap_zip : ∀ {ps : List Str} {us : List Value}, us.length = ps.length → ps.Nodup → (ps.filterMap fun n => ((ps.zip us).lookup n).map (n, ·)) = ps.zip us := by
  intro ps
  induction ps with
  | nil => intro us _ _; rfl
  | cons p r ih =>
    intro us hl nd
    cases us with
    | nil => cases hl
    | cons u ur =>
      obtain ⟨n1, n2⟩ := List.nodup_cons.mp nd
      rw [List.zip_cons_cons, List.filterMap_cons, List.lookup_cons, beq_self_eq_true]
      show (p, u) :: _ = _
      congr 1
      have key : ∀ l : List Str, (∀ n, n ∈ l → n ≠ p) → (l.filterMap fun n => (((p, u) :: r.zip ur).lookup n).map (n, ·)) = l.filterMap fun n => ((r.zip ur).lookup n).map (n, ·) := by
        intro l
        induction l with
        | nil => intro _; rfl
        | cons m l ihl =>
          intro h
          have e : (m == p) = false := by
            rw [beq_eq_false_iff_ne]
            exact h m List.mem_cons_self
          rw [List.filterMap_cons, List.filterMap_cons, List.lookup_cons, e, ihl fun n hn => h n (List.mem_cons_of_mem _ hn)]
      rw [key r fun n hn e => n1 (e ▸ hn)]
      exact ih (by simpa using hl) n2
theorem bind_plain {x qual : Str} {args : List Arg} {body : List Stmt} {scope : Scope} {kV doc pm cdv ct : Value} {an : Option Addr} {us : List Value} (hl : us.length = (args.map (·.arg)).length) (nd : (args.map (·.arg)).Nodup) :
    bindArgs (PySem.W.fnOf x qual ⟨[], args, none, [], [], none, []⟩ body scope .none kV doc pm an cdv ct) ⟨us, []⟩ = pure ((args.map (·.arg)).zip us) := by
  have e1 : seqItems? Value.none = pure none := rfl
  have h1 : ¬ (us.length > (args.map (·.arg)).length) := by omega
  have h2 : ((args.map (·.arg)).filter fun n => (((args.map (·.arg)).zip us).lookup n).isNone) = [] := by
    rw [List.filter_eq_nil_iff]
    intro n hn
    have := lookup_zip hl nd n hn
    simp [Option.isNone_iff_eq_none, Option.isSome_iff_ne_none] at this ⊢
    exact this
  unfold bindArgs PySem.W.fnOf
  simp only [List.map_nil, List.nil_append, List.append_nil, List.forIn_nil, pure_bind, e1]
  have e2 : (none : Option (Array Value)).getD #[] = #[] := rfl
  have e3 : (#[] : Array Value).toList = [] := rfl
  have e4 : decide (us.length > (args.map (·.arg)).length) = false := decide_eq_false h1
  simp only [e2, e3, e4, Bool.false_and, List.drop_nil, List.length_nil, Nat.sub_zero, List.take_length, h2, List.isEmpty_nil, Bool.not_true, List.zip_nil_right, List.forIn_nil, pure_bind, filterMap_zip hl nd, if_neg Bool.false_ne_true]

theorem binds_of {K : PySem.W.Frag} {x qual : Str} {params : Arguments} {body : List Stmt} {scope : Scope} {f : Addr} {fd : FuncData} {args : List Arg} (F : FunD K x qual params body scope [] [] f fd) (hp : params = ⟨[], args, none, [], [], none, []⟩) (nd : (args.map (·.arg)).Nodup) : ∀ us : List Value, us.length = (args.map (·.arg)).length → bindArgs fd ⟨us, []⟩ = pure ((args.map (·.arg)).zip us) := by
  obtain ⟨oc, od, dV, kV, doc, pm, an, cdv, ct, osl, rfl, lk, hcd, hD, _⟩ := F.ex
  have e : dV = .none := by
    rcases hD with ⟨_, e⟩ | ⟨n, _⟩
    · exact e
    · exact absurd rfl n
  subst e hp
  exact fun us hl => bind_plain hl nd
def nodupS : List Str → Bool
  | [] => true
  | x :: r => !r.contains x && nodupS r
theorem nodupS_ok : ∀ {l : List Str}, nodupS l = true → l.Nodup
  | [], _ => .nil
  | x :: r, h => by
    unfold nodupS at h
    simp only [Bool.and_eq_true, Bool.not_eq_true'] at h
    refine List.nodup_cons.mpr ⟨fun z => ?_, nodupS_ok h.2⟩
    rw [List.contains_iff_mem.mpr z] at h
    cases h.1
/-- plain parameters -/
def plainB (p : Arguments) : Bool := p.posonlyargs.isEmpty && p.vararg.isNone && p.kwonlyargs.isEmpty && p.kw_defaults.isEmpty && p.kwarg.isNone && p.defaults.isEmpty
theorem plain_ok {p : Arguments} (h : plainB p = true) : p = ⟨[], p.args, none, [], [], none, []⟩ := by
  obtain ⟨a, b, c, d, e, f, g⟩ := p
  unfold plainB at h
  simp only [Bool.and_eq_true, List.isEmpty_iff, Option.isNone_iff_eq_none] at h
  obtain ⟨⟨⟨⟨⟨h1, h2⟩, h3⟩, h4⟩, h5⟩, h6⟩ := h
  subst h1 h2 h3 h4 h5 h6
  rfl
def scopeB (N ps : List Str) (sc : Scope) : Bool := (match sc.kind with | .function => true | _ => false) && !sc.isCoroutine && !sc.isGenerator && nodupS N && (N.take ps.length == ps) &&
  (ps.all fun x => match sc.names.lookup x with | some .local => true | some .cell => true | _ => false) && (sc.names.all fun y => match y.2 with | .free => false | _ => true)
theorem scope_ok {N ps : List Str} {sc : Scope} (h : scopeB N ps sc = true) : FnScope N ps sc := by
  unfold scopeB at h
  simp only [Bool.and_eq_true, Bool.not_eq_true'] at h
  obtain ⟨⟨⟨⟨⟨⟨h1, h2⟩, h3⟩, h4⟩, h5⟩, h6⟩, h7⟩ := h
  refine ⟨?_, h2, h3, nodupS_ok h4, eq_of_beq h5, fun x hx => ?_, fun y hy e => ?_⟩
  · split at h1
    · assumption
    · cases h1
  · have q := List.all_eq_true.mp h6 x hx
    split at q
    · rename_i e; exact .inl e
    · rename_i e; exact .inr e
    · cases q
  · have q := List.all_eq_true.mp h7 y hy
    rw [e] at q
    cases q
/-- one def, checked -/
noncomputable def defB (T : Tab) (fn : Fn) (d : DefD) : Bool := (d.name == fn.name) && (d.at_.1 == fn.name) && d.at_.2.isNone && d.dfl.isEmpty && d.kwd.isEmpty && plainB d.params && scopeB fn.names (d.params.args.map (·.arg)) d.scope &&
  Nat.beq fn.names.length (fn.np + fn.nl) && Nat.beq d.params.args.length fn.np && Nat.beq fn.kd.length fn.np && chkSs T fn.names fn.body ⟨d.scope, fun _ => true⟩ d.body &&
  (match wfSs T fn.kd fn.fr (ioS fn.kd 0) fn.body (fn.kd ++ zers fn.nl) none with
    | some none => true
    | some (some k) => ioK fn.kd (ioS fn.kd 0) k
    | none => false)
noncomputable def defsB (T : Tab) : List Fn → List DefD → Bool
  | [], [] => true
  | f :: fs, d :: ds => defB T f d && defsB T fs ds
  | _, _ => false
theorem defs_at {T : Tab} : ∀ {fs : List Fn} {ds : List DefD} {i : Nat} {fn : Fn}, defsB T fs ds = true → fnAt fs i = some fn → ∃ d, d ∈ ds ∧ defB T fn d = true ∧ fn ∈ fs
  | [], _, i, fn, _, h => by cases h
  | f :: fs, [], i, fn, h, _ => by cases h
  | f :: fs, d :: ds, 0, fn, h, e => by
    unfold defsB at h
    cases e
    exact ⟨d, List.mem_cons_self, (Bool.and_eq_true_iff.mp h).1, List.mem_cons_self⟩
  | f :: fs, d :: ds, i + 1, fn, h, e => by
    unfold defsB at h
    obtain ⟨d', h1, h2, h3⟩ := defs_at (i := i) (Bool.and_eq_true_iff.mp h).2 e
    exact ⟨d', List.mem_cons_of_mem _ h1, h2, List.mem_cons_of_mem _ h3⟩
theorem says_defs {fa : List Fa} {fn : List DefD} {K : PySem.W.Frag} (c : SaysD fa fn K) {d : DefD} (h : d ∈ fn) : ∃ fd, FunD K d.name d.qual d.params d.body d.scope (d.dvs K) (d.kws K) (fAd K d.at_) fd := by
  obtain ⟨i, hi, e⟩ := List.mem_iff_getElem.mp h
  exact c.def_ i (d := d) (by rw [List.getElem?_eq_getElem hi, e])
theorem says_fact {fa : List Fa} {fn : List DefD} {K : PySem.W.Frag} (c : SaysD fa fn K) {f : Fa} (h : f ∈ fa) : f.ok K = true := by
  obtain ⟨i, hi, e⟩ := List.mem_iff_getElem.mp h
  exact c.fact i (f := f) (by rw [List.getElem?_eq_getElem hi, e])
/-- the facts that a table wants of the head -/
def facts (T : Tab) : List Fa := T.P.map (fun f => Fa.glo f.name) ++ T.blts.map Fa.free
theorem tab_ok {T : Tab} {ds : List DefD} {K : PySem.W.Frag} {h : Heap} {mg : Str → Option Value} (X : K.In h) (G : h.Ns mainGlobals mg) (c : SaysD (facts T) ds K) (cc : cstsB T.consts K = true) (hd : defsB T T.P ds = true) : TabOk T K mg where
  cst := fun x v hl => csts_ok X G cc x v hl
  blt := fun x hx => free_ok X G (says_fact c (f := .free x) (List.mem_append_right _ (List.mem_map_of_mem (List.contains_iff_mem.mp hx))))
  fns := fun f fn hf => by
    obtain ⟨d, h1, h2, h3⟩ := defs_at hd hf
    obtain ⟨fd, F⟩ := says_defs c h1
    unfold defB at h2
    simp only [Bool.and_eq_true] at h2
    obtain ⟨⟨⟨⟨⟨⟨⟨⟨⟨⟨⟨b1, b2⟩, b3⟩, b4⟩, b5⟩, b6⟩, b7⟩, b8⟩, b9⟩, b10⟩, b11⟩, b12⟩ := h2
    have e1 := eq_of_beq b1
    have e2 := eq_of_beq b2
    have e3 := Option.isNone_iff_eq_none.mp b3
    have e4 := List.isEmpty_iff.mp b4
    have e5 := List.isEmpty_iff.mp b5
    have hg : mg fn.name = some (.ref (ga K fn.name)) := glo_ok X G (says_fact c (f := .glo fn.name) (List.mem_append_left _ (List.mem_map_of_mem (f := fun f : Fn => Fa.glo f.name) h3)))
    have ea : fAd K d.at_ = ga K fn.name := by
      unfold fAd
      rw [e3, e2]
    have F' : FunD K fn.name d.qual d.params d.body d.scope [] [] (ga K fn.name) fd := by
      have q := F
      unfold DefD.dvs DefD.kws at q
      rw [e4, e5, ea, e1] at q
      exact q
    have sc := scope_ok b7
    have ndp : (d.params.args.map (·.arg)).Nodup := by
      rw [← sc.pre]
      exact sc.nd.sublist (List.take_sublist _ _)
    refine ⟨ga K fn.name, fd, _, fn.names, d.qual, d.params, d.body, d.scope, hg, binds_of F' (plain_ok b6) ndp, F', sc, rfl, sc.nd, Nat.eq_of_beq_eq_true b8, by rw [List.length_map]; exact Nat.eq_of_beq_eq_true b9, Nat.eq_of_beq_eq_true b10, sc.kind, b11, ?_⟩
    split at b12
    · rename_i hw
      exact ⟨none, hw, fun k h => nomatch h⟩
    · rename_i k hw
      exact ⟨some k, hw, fun k' h => by cases h; exact b12⟩
    · cases b12
end Mp
set_option Elab.async false
set_option linter.all false
set_option maxRecDepth 10000
/-! # Mp: a law's walk. -/
namespace Mp
open PySem PySem.Spec PyProof.Rows L2 He
theorem fnok0 {P : Program} {w : World} {K : PySem.W.Frag} {mg : Str → Option Value} {base : Heap} {k : Nat} {f : Addr} {fd : FuncData} {ps : List Str} {sp : Sp} (F : FnOk P w K mg base (L2.CX P w) k f fd ps sp) : FnOk P w K mg base CX0 k f fd ps (fun vs H Q _ => sp vs H Q fun _ _ _ => False) :=
  ⟨fun vs H Q _ h => F.len vs H Q _ h, fun A outer s H args us vs Q E hr he hb hv hs => codeAny_mono (F.run A outer s H args us vs Q _ hr he hb hv hs) fun r s' hq => by
    cases r with
    | error e =>
      obtain ⟨_, _, _, _, _, _, _, _, _, _, _, _, z⟩ := hq
      exact z.elim
    | ok fl => cases fl <;> exact hq⟩
theorem law_walk {l : PySem.W.OpenLaw} {n k hn f0 : Nat} {q : Program} {loose : List Str} {XP : (Str → Option Value) → Heap → Prop} {d : DefRec} {T : Tab} {ds : List DefD} {fn : Fn}
    (hm : l.most = some n) (hn2 : n ≤ sizeLine) (hdf : d.params.defaults = []) (hr : Room k callerA) (hf : fnAt T.P f0 = some fn) (hname : fn.name = d.name) (hnp : fn.np = 1) (hkd : fn.kd = [3]) (hd : defsB T T.P ds = true)
    (hrun : ∀ ns : List Int, ns.length ≤ n → ∃ outs, callF T.P k f0 [.opq 0 (ns.map .int)] = .ok (.bl true) outs) (x : Str) (hps : fn.names.take 1 = [x]) :
    PySem.W.WalkO q loose XP (hookM hn (facts T) ds T.consts).says l.row.toRowW d [] (fun f vs => PySem.call f vs) := by
  refine walk_ofE (CX := CX0) (x := x) (k := k) hm hn2 hdf hr (fun w mg fa h ⟨K, X, c, cc⟩ G hmg => ?_) fun H s e s' hh => ?_
  · have tab := tab_ok X G c cc hd
    obtain ⟨a, fd, ps, N, qual, params, body, scope, q1, q3, q4, q5, q6⟩ := tab.fns f0 fn hf
    rw [hname, hmg] at q1
    cases q1
    have ep : ps = [x] := by
      rw [← q5.pre, q6.eN, q6.eps, hnp]
      exact hps
    subst ep
    refine ⟨K, fd, fun vs H Q _ => spF (parOf T K k fun _ _ _ _ => False) f0 fn vs H Q (fun _ _ _ => False), X, fun s u => .of_eq (q3 [u] rfl), fun H a ns hl ho hs => law_sp hnp hkd (hrun ns hl) (sqf_of hs ho), fun base _ _ => ?_⟩
    exact fnok0 (fns_ok (P := l.prog) (w := w) (base := base) tab (fun _ _ _ _ => False) k f0 fn hf fa fd [x] N qual params body scope q4 q5 q6)
  · exact hh.elim
end Mp
set_option Elab.async false
set_option linter.all false
set_option maxRecDepth 10000
/-! # Mp: rules for plain proofs about runs. -/
namespace Mp
open PySem

/-! ### words: what follows is named, so that simp does not look into it -/
theorem condB_some (x : Bool) (t f : R Val) : condB (some x) t f = sel x t f := by cases x <;> rfl
noncomputable section
variable (C : Nat → List Val → RC) (o : Bop) (p q : Cop) (a b c : Env → R Val) (e : Env) (r r2 : Env → R (List Val)) (v w : Val) (vs : List Val) (x y : Env → O) (i : Nat) (is : List Nat)
def kTup (vs : List Val) (e : Env) : R Val := .ok (.tup vs) e
@[simp] theorem kTup_eq : kTup vs e = .ok (.tup vs) e := rfl
def kLst (vs : List Val) (e : Env) : R Val := .ok (.lst vs) e
@[simp] theorem kLst_eq : kLst vs e = .ok (.lst vs) e := rfl
def kBin2 (v w : Val) (e : Env) : R Val := ofO (bop o v w) e
@[simp] theorem kBin2_eq : kBin2 o v w e = ofO (bop o v w) e := rfl
def kBin (v : Val) (e : Env) : R Val := bindR (b e) (kBin2 o v)
@[simp] theorem kBin_eq : kBin o b v e = bindR (b e) (kBin2 o v) := rfl
def kNeg (i : Int) (e : Env) : R Val := .ok (.int (-i)) e
@[simp] theorem kNeg_eq (i : Int) : kNeg i e = .ok (.int (-i)) e := rfl
def kCmp2 (v w : Val) (e : Env) : R Val := ofB (cop p v w) e
@[simp] theorem kCmp2_eq : kCmp2 p v w e = ofB (cop p v w) e := rfl
def kCmp (v : Val) (e : Env) : R Val := bindR (b e) (kCmp2 p v)
@[simp] theorem kCmp_eq : kCmp p b v e = bindR (b e) (kCmp2 p v) := rfl
/-- the second half of a chain -/
def kChn (w : Val) (e : Env) (o : Option Bool) : R Val := condB o (bindR (c e) (kCmp2 q w)) (.ok (.bl false) e)
@[simp] theorem kChn_true : kChn q c w e (some true) = bindR (c e) (kCmp2 q w) := rfl
@[simp] theorem kChn_false : kChn q c w e (some false) = .ok (.bl false) e := rfl
def kC2 (v w : Val) (e : Env) : R Val := kChn q c w e (cop p v w)
@[simp] theorem kC2_eq : kC2 p q c v w e = kChn q c w e (cop p v w) := rfl
def kC1 (v : Val) (e : Env) : R Val := bindR (b e) (kC2 p q c v)
@[simp] theorem kC1_eq : kC1 p q b c v e = bindR (b e) (kC2 p q c v) := rfl
def kAnd (t : Bool) (e : Env) : R Val := sel t (b e) (.ok (.bl false) e)
@[simp] theorem kAnd_true : kAnd b true e = b e := rfl
@[simp] theorem kAnd_false : kAnd b false e = .ok (.bl false) e := rfl
def kOr (t : Bool) (e : Env) : R Val := sel t (.ok (.bl true) e) (b e)
@[simp] theorem kOr_true : kOr b true e = .ok (.bl true) e := rfl
@[simp] theorem kOr_false : kOr b false e = b e := rfl
def kNot (t : Bool) (e : Env) : R Val := .ok (.bl (!t)) e
@[simp] theorem kNot_eq (t : Bool) : kNot t e = .ok (.bl (!t)) e := rfl
def kSel (t : Bool) (e : Env) : R Val := sel t (a e) (b e)
@[simp] theorem kSel_true : kSel a b true e = a e := rfl
@[simp] theorem kSel_false : kSel a b false e = b e := rfl
def kIdx2 (v w : Val) (e : Env) : R Val := ofO (idxV v w) e
@[simp] theorem kIdx2_eq : kIdx2 v w e = ofO (idxV v w) e := rfl
def kIdx (v : Val) (e : Env) : R Val := bindR (b e) (kIdx2 v)
@[simp] theorem kIdx_eq : kIdx b v e = bindR (b e) (kIdx2 v) := rfl
def kSl3 (v : Val) (l h : List Val) (e : Env) : R Val := ofO (slcV v l h) e
@[simp] theorem kSl3_eq (l h : List Val) : kSl3 v l h e = ofO (slcV v l h) e := rfl
def kSl2 (v : Val) (l : List Val) (e : Env) : R Val := okPart (partOf l) (bindR (r2 e) (kSl3 v l))
@[simp] theorem kSl2_eq (l : List Val) : kSl2 r2 v l e = okPart (partOf l) (bindR (r2 e) (kSl3 v l)) := rfl
def kSl1 (v : Val) (e : Env) : R Val := bindR (r e) (kSl2 r2 v)
@[simp] theorem kSl1_eq : kSl1 r r2 v e = bindR (r e) (kSl2 r2 v) := rfl
def kRv (v : Val) (e : Env) : R Val := ofO (rvV v) e
@[simp] theorem kRv_eq : kRv v e = ofO (rvV v) e := rfl
def kCall (f : Nat) (args : List E) (js : List Nat) (brw : Nat) (vs : List Val) (e : Env) : R Val := sel (defd (fill args vs e)) (vBack js brw e (C f (fill args vs e))) .bad
@[simp] theorem kCall_eq (f : Nat) (args : List E) (js : List Nat) (brw : Nat) : kCall C f args js brw vs e = sel (defd (fill args vs e)) (vBack js brw e (C f (fill args vs e))) .bad := rfl
def kBi (u : Bi) (vs : List Val) (e : Env) : R Val := ofO (bifn u vs) e
@[simp] theorem kBi_eq (u : Bi) : kBi u vs e = ofO (bifn u vs) e := rfl
def kMe2 (m : Me) (v : Val) (vs : List Val) (e : Env) : R Val := ofO (meth m v vs) e
@[simp] theorem kMe2_eq (m : Me) : kMe2 m v vs e = ofO (meth m v vs) e := rfl
def kMe (m : Me) (v : Val) (e : Env) : R Val := seqThen v (bindR (r e) (kMe2 m v))
@[simp] theorem kMe_eq (m : Me) : kMe r m v e = seqThen v (bindR (r e) (kMe2 m v)) := rfl
def kCmpr (t : Tgt) (k : Src) (vs : List Val) (e : Env) : R Val := compI t a b e (items k vs)
@[simp] theorem kCmpr_eq (t : Tgt) (k : Src) : kCmpr a b t k vs e = compI t a b e (items k vs) := rfl
def kRst (t : Tgt) (e0 : Env) (ys : List Val) (e : Env) : R Val := .ok (.lst ys) (rst e0 t.slots e)
@[simp] theorem kRst_eq (t : Tgt) (e0 : Env) : kRst t e0 vs e = .ok (.lst vs) (rst e0 t.slots e) := rfl
def kCons2 (v : Val) (vs : List Val) (e : Env) : R (List Val) := .ok (v :: vs) e
@[simp] theorem kCons2_eq : kCons2 v vs e = .ok (v :: vs) e := rfl
def kCons (v : Val) (e : Env) : R (List Val) := bindR (r e) (kCons2 v)
@[simp] theorem kCons_eq : kCons r v e = bindR (r e) (kCons2 v) := rfl
def kAsg (i : Nat) (v : Val) (e : Env) : O := .nx (st e i v)
@[simp] theorem kAsg_eq : kAsg i v e = .nx (st e i v) := rfl
def kAsgT (is : List Nat) (v : Val) (e : Env) : O := putsO is (tupOf v) e
@[simp] theorem kAsgT_eq : kAsgT is v e = putsO is (tupOf v) e := rfl
def kPar (is : List Nat) (vs : List Val) (e : Env) : O := nxO (puts is vs e)
@[simp] theorem kPar_eq : kPar is vs e = nxO (puts is vs e) := rfl
def kSub2 (i : Nat) (y : Val) (k : Int) (e : Env) : O := stO i (setV (gt e i) k y) e
@[simp] theorem kSub2_eq (k : Int) : kSub2 i v k e = stO i (setV (gt e i) k v) e := rfl
def kSub1 (i : Nat) (y : Val) (e : Env) : O := lstThenO (gt e i) (bindOI (a e) (kSub2 i y))
@[simp] theorem kSub1_eq : kSub1 a i v e = lstThenO (gt e i) (bindOI (a e) (kSub2 i v)) := rfl
def kApp (i : Nat) (y : Val) (e : Env) : O := stO i (appV (gt e i) y) e
@[simp] theorem kApp_eq : kApp i v e = stO i (appV (gt e i) v) e := rfl
def kEx (_ : Val) (e : Env) : O := .nx e
@[simp] theorem kEx_eq : kEx v e = .nx e := rfl
def kIf (t : Bool) (e : Env) : O := sel t (x e) (y e)
@[simp] theorem kIf_true : kIf x y true e = x e := rfl
@[simp] theorem kIf_false : kIf x y false e = y e := rfl
def kLoop (t : Tgt) (k : Src) (vs : List Val) (e : Env) : O := forI t x e (items k vs)
@[simp] theorem kLoop_eq (t : Tgt) (k : Src) : kLoop x t k vs e = forI t x e (items k vs) := rfl
def kPopAt (i : Nat) (k : Int) (e : Env) : R Val := popped i (popAtL k (gt e i)) e
@[simp] theorem kPopAt_eq (k : Int) : kPopAt i k e = popped i (popAtL k (gt e i)) e := rfl
def kS3 (i : Nat) (y : Val) (k l : Int) (e : Env) : O := stO i (onAt (gt e i) k fun z => setV z l y) e
@[simp] theorem kS3_eq (k l : Int) : kS3 i v k l e = stO i (onAt (gt e i) k fun z => setV z l v) e := rfl
def kS2 (iy : Env → R Val) (i : Nat) (y : Val) (k : Int) (e : Env) : O := atThenO (gt e i) k (bindOI (iy e) (kS3 i y k))
@[simp] theorem kS2_eq (k : Int) : kS2 b i v k e = atThenO (gt e i) k (bindOI (b e) (kS3 i v k)) := rfl
def kS1 (ix iy : Env → R Val) (i : Nat) (y : Val) (e : Env) : O := lstThenO (gt e i) (bindOI (ix e) (kS2 iy i y))
@[simp] theorem kS1_eq : kS1 a b i v e = lstThenO (gt e i) (bindOI (a e) (kS2 b i v)) := rfl
def kA2 (i : Nat) (k : Int) (y : Val) (e : Env) : O := stO i (onAt (gt e i) k fun z => appV z y) e
@[simp] theorem kA2_eq (k : Int) : kA2 i k v e = stO i (onAt (gt e i) k fun z => appV z v) e := rfl
def kA1 (b : Env → R Val) (i : Nat) (k : Int) (e : Env) : O := atLstO (gt e i) k (bindO (b e) (kA2 i k))
@[simp] theorem kA1_eq (k : Int) : kA1 b i k e = atLstO (gt e i) k (bindO (b e) (kA2 i k)) := rfl
def kRet (v : Val) (e : Env) : O := .ret v e
@[simp] theorem kRet_eq : kRet v e = .ret v e := rfl
end
section
variable (C : Nat → List Val → RC) (o o2 : Bop) (a b c : Env → R Val) (e : Env) (r r2 : Env → R (List Val))
@[simp] theorem vVar_eq (i : Nat) : vVar i e = undefd (gt e i) .bad (.ok (gt e i) e) := rfl
@[simp] theorem vTup_eq : vTup r e = bindR (r e) kTup := rfl
@[simp] theorem vLst_eq : vLst r e = bindR (r e) kLst := rfl
@[simp] theorem vBin_eq : vBin o a b e = bindR (a e) (kBin o b) := rfl
@[simp] theorem vNeg_eq : vNeg a e = bindI (a e) kNeg := rfl
@[simp] theorem vCmp_eq (p : Cop) : vCmp p a b e = bindR (a e) (kCmp p b) := rfl
@[simp] theorem vCmp2_eq (p q : Cop) : vCmp2 p q a b c e = bindR (a e) (kC1 p q b c) := rfl
@[simp] theorem vAnd_eq : vAnd a b e = bindB (a e) (kAnd b) := rfl
@[simp] theorem vOr_eq : vOr a b e = bindB (a e) (kOr b) := rfl
@[simp] theorem vNot_eq : vNot a e = bindB (a e) kNot := rfl
@[simp] theorem vIte_eq : vIte c a b e = bindB (c e) (kSel a b) := rfl
@[simp] theorem vIdx_eq : vIdx a b e = bindR (a e) (kIdx b) := rfl
@[simp] theorem vSlc_eq : vSlc a r r2 e = bindR (a e) (kSl1 r r2) := rfl
@[simp] theorem vRv_eq : vRv a e = bindR (a e) kRv := rfl
@[simp] theorem vCall_eq (f : Nat) (args : List E) (js : List Nat) (brw : Nat) : vCall C f args r js brw e = bindR (r e) (kCall C f args js brw) := rfl
@[simp] theorem okCall_t (v : Val) (e2 : Env) : okCall true v (some e2) = .ok v e2 := rfl
@[simp] theorem vBi_eq (w : Bi) : vBi w r e = bindR (r e) (kBi w) := rfl
@[simp] theorem vMe_eq (m : Me) : vMe m a r e = bindR (a e) (kMe r m) := rfl
@[simp] theorem vPop_eq (i : Nat) : vPop i e = popped i (popL (gt e i)) e := rfl
@[simp] theorem vComp_eq (t : Tgt) (k : Src) : vComp t k r a b e = bindR (r e) (kCmpr a b t k) := rfl
@[simp] theorem compI_some (t : Tgt) (xs : List Val) : compI t a b e (some xs) = sel (Nat.ble xs.length LIM) (bindR (compN t a b xs (kills t.slots e)) (kRst t e)) .bad := rfl
@[simp] theorem vCons_eq : vCons a r e = bindR (a e) (kCons r) := rfl
@[simp] theorem testOf_nil : testOf (evs C []) e = .ok (.bl true) e := rfl
@[simp] theorem testOf_one (x : E) : testOf (evs C [x]) e = ev C x e := by
  show bindR (bindR (ev C x e) fun v e1 => R.ok [v] e1) _ = _
  cases ev C x e <;> rfl
@[simp] theorem xAsg_eq (i : Nat) : xAsg i a e = bindO (a e) (kAsg i) := rfl
@[simp] theorem xMv_eq (i j : Nat) : xMv i j e = undefd (gt e j) .bad (.nx (st (st e j .undef) i (gt e j))) := rfl
@[simp] theorem xAsgT_eq (is : List Nat) : xAsgT is a e = bindO (a e) (kAsgT is) := rfl
@[simp] theorem xPar_eq (is : List Nat) : xPar is r e = bindO (r e) (kPar is) := rfl
@[simp] theorem xSub1_eq (i : Nat) : xSub1 i a b e = bindO (b e) (kSub1 a i) := rfl
@[simp] theorem vPopAt_eq (i : Nat) : vPopAt i a e = lstThen (gt e i) (bindI (a e) (kPopAt i)) := rfl
@[simp] theorem xSub2_eq (i : Nat) : xSub2 i a b c e = bindO (c e) (kS1 a b i) := rfl
@[simp] theorem xApp_eq (i : Nat) : xApp i a e = lstThenO (gt e i) (bindO (a e) (kApp i)) := rfl
@[simp] theorem xApp1_eq (i : Nat) : xApp1 i a b e = lstThenO (gt e i) (bindOI (a e) (kA1 b i)) := rfl
@[simp] theorem xEx_eq : xEx a e = bindO (a e) kEx := rfl
@[simp] theorem xIte_eq (x y : Env → O) : xIte c x y e = bindOB (c e) (kIf x y) := rfl
@[simp] theorem xLoop_eq (t : Tgt) (k : Src) (x : Env → O) : xLoop t k r x e = bindO (r e) (kLoop x t k) := rfl
@[simp] theorem xRet_eq : xRet a e = bindO (a e) kRet := rfl
@[simp] theorem stO_some (i : Nat) (v : Val) : stO i (some v) e = .nx (st e i v) := rfl
@[simp] theorem putsO_some (is : List Nat) (xs : List Val) : putsO is (some xs) e = nxO (puts is xs e) := rfl
@[simp] theorem tupOf_tup (xs : List Val) : tupOf (.tup xs) = some xs := rfl
@[simp] theorem popped_some (i : Nat) (p : Val × Val) : popped i (some p) e = .ok p.1 (st e i p.2) := rfl
@[simp] theorem puts_nil : puts [] [] e = some e := rfl
@[simp] theorem puts_cons (i : Nat) (is : List Nat) (v : Val) (vs : List Val) : puts (i :: is) (v :: vs) e = puts is vs (st e i v) := rfl
@[simp] theorem kills_nil : kills [] e = e := rfl
@[simp] theorem kills_cons (i : Nat) (is : List Nat) : kills (i :: is) e = kills is (st e i .undef) := rfl
@[simp] theorem rst_nil (e' : Env) : rst e [] e' = e' := rfl
@[simp] theorem rst_cons (e' : Env) (i : Nat) (is : List Nat) : rst e (i :: is) e' = rst e is (st e' i (gt e i)) := rfl
@[simp] theorem slots_one (i : Nat) : (Tgt.one i).slots = [i] := rfl
@[simp] theorem slots_tup (is : List Nat) : (Tgt.tup is).slots = is := rfl
@[simp] theorem bindT_one (i : Nat) (v : Val) : bindT (.one i) v e = some (st e i v) := rfl
@[simp] theorem bindT_tup (is : List Nat) (xs : List Val) : bindT (.tup is) (.tup xs) e = puts is xs e := rfl
@[simp] theorem undefs_zero : undefs 0 = [] := rfl
@[simp] theorem undefs_succ (n : Nat) : undefs (n + 1) = .undef :: undefs n := rfl
end
@[simp] theorem fill_nil (vs : List Val) (e : Env) : fill [] vs e = [] := by cases vs <;> rfl
@[simp] theorem fill_cons (a : E) (es : List E) (v : Val) (vs : List Val) (e : Env) : fill (a :: es) (v :: vs) e = fill1 a v e :: fill es vs e := rfl
@[simp] theorem fill1_io (i : Nat) (v : Val) (e : Env) : fill1 (.io i) v e = gt e i := rfl
section
variable (v : Val) (e : Env)
@[simp] theorem fill1_int (i : Int) : fill1 (.int i) v e = v := rfl
@[simp] theorem fill1_str (i : Str) : fill1 (.str i) v e = v := rfl
@[simp] theorem fill1_bl (i : Bool) : fill1 (.bl i) v e = v := rfl
@[simp] theorem fill1_non : fill1 .non v e = v := rfl
@[simp] theorem fill1_cst (x : Str) (w : Val) : fill1 (.cst x w) v e = v := rfl
@[simp] theorem fill1_var (i : Nat) : fill1 (.var i) v e = v := rfl
@[simp] theorem fill1_tup (i : List E) : fill1 (.tup i) v e = v := rfl
@[simp] theorem fill1_lst (i : List E) : fill1 (.lst i) v e = v := rfl
@[simp] theorem fill1_bin (o : Bop) (a b : E) : fill1 (.bin o a b) v e = v := rfl
@[simp] theorem fill1_neg (a : E) : fill1 (.neg a) v e = v := rfl
@[simp] theorem fill1_cmp (o : Cop) (a b : E) : fill1 (.cmp o a b) v e = v := rfl
@[simp] theorem fill1_cmp2 (o o2 : Cop) (a b c : E) : fill1 (.cmp2 o o2 a b c) v e = v := rfl
@[simp] theorem fill1_and (a b : E) : fill1 (.and a b) v e = v := rfl
@[simp] theorem fill1_or (a b : E) : fill1 (.or a b) v e = v := rfl
@[simp] theorem fill1_not (a : E) : fill1 (.not a) v e = v := rfl
@[simp] theorem fill1_ite (a b c : E) : fill1 (.ite a b c) v e = v := rfl
@[simp] theorem fill1_idx (a b : E) : fill1 (.idx a b) v e = v := rfl
@[simp] theorem fill1_slc (a : E) (b c : List E) : fill1 (.slc a b c) v e = v := rfl
@[simp] theorem fill1_rv (a : E) : fill1 (.rv a) v e = v := rfl
@[simp] theorem fill1_call (f : Nat) (a : List E) (js : List Nat) (b : Nat) : fill1 (.call f a js b) v e = v := rfl
@[simp] theorem fill1_bi (f : Bi) (a : List E) : fill1 (.bi f a) v e = v := rfl
@[simp] theorem fill1_me (f : Me) (b : E) (a : List E) : fill1 (.me f b a) v e = v := rfl
@[simp] theorem fill1_pop (i : Nat) : fill1 (.pop i) v e = v := rfl
@[simp] theorem fill1_popAt (i : Nat) (a : E) : fill1 (.popAt i a) v e = v := rfl
@[simp] theorem fill1_comp (t : Tgt) (k : Src) (a b : List E) (c : E) : fill1 (.comp t k a b c) v e = v := rfl
end
/-! ### values -/
@[simp] theorem isDat_non : isDat .non = true := id rfl
@[simp] theorem isDat_bl (b : Bool) : isDat (.bl b) = true := id rfl
@[simp] theorem isDat_int (b : Int) : isDat (.int b) = true := id rfl
@[simp] theorem isDat_str (b : Str) : isDat (.str b) = true := id rfl
@[simp] theorem isDat_tup (b : List Val) : isDat (.tup b) = true := id rfl
@[simp] theorem isDat_lst (b : List Val) : isDat (.lst b) = true := id rfl
@[simp] theorem tyOk_int_0 : tyOk .int 0 = true := rfl
@[simp] theorem tyOk_int_1 : tyOk .int 1 = true := rfl
@[simp] theorem tyOk_int_2 : tyOk .int 2 = false := rfl
@[simp] theorem tyOk_int_3 : tyOk .int 3 = false := rfl
@[simp] theorem tyOk_int_4 : tyOk .int 4 = false := rfl
@[simp] theorem tyOk_int_5 : tyOk .int 5 = false := rfl
@[simp] theorem tyOk_bool_0 : tyOk .bool 0 = false := rfl
@[simp] theorem tyOk_bool_1 : tyOk .bool 1 = true := rfl
@[simp] theorem tyOk_bool_2 : tyOk .bool 2 = false := rfl
@[simp] theorem tyOk_bool_3 : tyOk .bool 3 = false := rfl
@[simp] theorem tyOk_bool_4 : tyOk .bool 4 = false := rfl
@[simp] theorem tyOk_bool_5 : tyOk .bool 5 = false := rfl
@[simp] theorem tyOk_str_0 : tyOk .str 0 = false := rfl
@[simp] theorem tyOk_str_1 : tyOk .str 1 = false := rfl
@[simp] theorem tyOk_str_2 : tyOk .str 2 = true := rfl
@[simp] theorem tyOk_str_3 : tyOk .str 3 = false := rfl
@[simp] theorem tyOk_str_4 : tyOk .str 4 = false := rfl
@[simp] theorem tyOk_str_5 : tyOk .str 5 = false := rfl
@[simp] theorem tyOk_tuple_0 : tyOk .tuple 0 = false := rfl
@[simp] theorem tyOk_tuple_1 : tyOk .tuple 1 = false := rfl
@[simp] theorem tyOk_tuple_2 : tyOk .tuple 2 = false := rfl
@[simp] theorem tyOk_tuple_3 : tyOk .tuple 3 = true := rfl
@[simp] theorem tyOk_tuple_4 : tyOk .tuple 4 = false := rfl
@[simp] theorem tyOk_tuple_5 : tyOk .tuple 5 = false := rfl
@[simp] theorem tyOk_list_0 : tyOk .list 0 = false := rfl
@[simp] theorem tyOk_list_1 : tyOk .list 1 = false := rfl
@[simp] theorem tyOk_list_2 : tyOk .list 2 = false := rfl
@[simp] theorem tyOk_list_3 : tyOk .list 3 = false := rfl
@[simp] theorem tyOk_list_4 : tyOk .list 4 = true := rfl
@[simp] theorem tyOk_list_5 : tyOk .list 5 = false := rfl
theorem isTy_of (t : Ty) {v : Val} (h : isDat v = true) : isTy t v = some (tyOk t (kindOf v)) := by
  cases v <;> first | (cases h; done) | rfl
@[simp] theorem isTy_non (t : Ty) : isTy t .non = some (tyOk t 5) := rfl
@[simp] theorem isTy_bl (t : Ty) (b : Bool) : isTy t (.bl b) = some (tyOk t 1) := rfl
@[simp] theorem isTy_int (t : Ty) (b : Int) : isTy t (.int b) = some (tyOk t 0) := rfl
@[simp] theorem isTy_str (t : Ty) (b : Str) : isTy t (.str b) = some (tyOk t 2) := rfl
@[simp] theorem isTy_tup (t : Ty) (b : List Val) : isTy t (.tup b) = some (tyOk t 3) := rfl
@[simp] theorem isTy_lst (t : Ty) (b : List Val) : isTy t (.lst b) = some (tyOk t 4) := rfl
theorem undefd_of {β : Type} {v : Val} (h : isDat v = true) (z k : β) : undefd v z k = k := by
  cases v <;> first | rfl | cases h
section
variable (i j : Int) (x y : Val) (xs ys : List Val)
@[simp] theorem bop_add : bop .add = bAdd := rfl
@[simp] theorem bop_sub : bop .sub = bSub := rfl
@[simp] theorem bop_mul : bop .mul = bMul := rfl
@[simp] theorem bop_fdiv : bop .fdiv = bDiv := rfl
@[simp] theorem bop_mod : bop .mod = bMod := rfl
@[simp] theorem bop_pow : bop .pow = bPow := rfl
@[simp] theorem bAdd_int : bAdd (.int i) (.int j) = some (.int (i + j)) := rfl
@[simp] theorem bSub_int : bSub (.int i) (.int j) = some (.int (i - j)) := rfl
theorem bMul_int (h : small i = true ∨ small j = true) : bMul (.int i) (.int j) = some (.int (i * j)) := by
  show (if small i || small j then _ else _) = _
  rw [if_pos]
  rcases h with h | h <;> simp [h]
theorem bDiv_int (h : 0 < j) (h2 : j < 18446744073709551616) : bDiv (.int i) (.int j) = some (.int (i / j)) := by
  show (if decide (0 < j) && decide (j < 18446744073709551616) then _ else _) = _
  rw [if_pos (by simp [h, h2])]
theorem bMod_int (h : 0 < j) : bMod (.int i) (.int j) = some (.int (i % j)) := by
  show (if decide (0 < j) then _ else _) = _
  rw [if_pos (by simp [h])]
theorem bAdd_lst (h : xs.length + ys.length ≤ LIM) : bAdd (.lst xs) (.lst ys) = some (.lst (xs ++ ys)) := by
  show (if Nat.ble (xs.length + ys.length) LIM then _ else _) = _
  rw [if_pos (Nat.ble_eq_true_of_le h)]
theorem bAdd_tup (h : xs.length + ys.length ≤ LIM) : bAdd (.tup xs) (.tup ys) = some (.tup (xs ++ ys)) := by
  show (if Nat.ble (xs.length + ys.length) LIM then _ else _) = _
  rw [if_pos (Nat.ble_eq_true_of_le h)]
@[simp] theorem cop_eq : cop .eq x y = cEq x y := rfl
@[simp] theorem cop_ne : cop .ne x y = notO (cEq x y) := rfl
@[simp] theorem cop_lt : cop .lt (.int i) (.int j) = some (decide (i < j)) := rfl
@[simp] theorem cop_le : cop .le (.int i) (.int j) = some (decide (i ≤ j)) := rfl
@[simp] theorem cop_gt : cop .gt (.int i) (.int j) = some (decide (j < i)) := rfl
@[simp] theorem cop_ge : cop .ge (.int i) (.int j) = some (decide (j ≤ i)) := rfl
@[simp] theorem cop_in : cop .isin x y = isIn x y := rfl
@[simp] theorem cop_notin : cop .notin x y = notO (isIn x y) := rfl
@[simp] theorem cop_is : cop .is x y = cIs x y := rfl
@[simp] theorem cop_isnot : cop .isnot x y = notO (cIs x y) := rfl
@[simp] theorem notO_some2 (b : Bool) : notO (some b) = some (!b) := rfl
theorem cEq_of (h : isDat x = true) (h' : isDat y = true) (d : dep x ≤ 190 ∨ dep y ≤ 190) : cEq x y = some (eqv x y) := by
  show (if okEq x y then _ else _) = _
  unfold okEq
  rw [h, h', if_pos]
  rw [Bool.true_and, Bool.true_and]
  exact Nat.ble_eq_true_of_le (by omega)
theorem cIs_non (h : isDat x = true) : cIs x .non = some (isNon x) := by
  show (if isDat x then _ else _) = _
  rw [if_pos h]
@[simp] theorem cIs_bl (a b : Bool) : cIs (.bl a) (.bl b) = some (a == b) := rfl
@[simp] theorem cEq_int : cEq (.int i) (.int j) = some (i == j) := by rw [cEq_of] <;> first | rfl | exact .inl (Nat.zero_le _)
@[simp] theorem cEq_str (s t : Str) : cEq (.str s) (.str t) = some (s == t) := by rw [cEq_of] <;> first | rfl | exact .inl (Nat.zero_le _)
@[simp] theorem cEq_nn : cEq .non .non = some true := rfl
@[simp] theorem cEq_bl (a b : Bool) : cEq (.bl a) (.bl b) = some (a == b) := by rw [cEq_of] <;> first | rfl | exact .inl (Nat.zero_le _)
theorem cEq_nil (h : isDat x = true) : cEq x (.lst []) = some (eqv x (.lst [])) := cEq_of _ _ h rfl (.inr (by decide))
@[simp] theorem cEq_lnil : cEq (.lst xs) (.lst []) = some xs.isEmpty := by
  rw [cEq_of] <;> first | rfl | exact .inr (by decide) | skip
  cases xs <;> rfl
@[simp] theorem cEq_tnil : cEq (.tup xs) (.tup []) = some xs.isEmpty := by
  rw [cEq_of] <;> first | rfl | exact .inr (by decide) | skip
  cases xs <;> rfl
theorem isIn_tup (h : isDat x = true) (d : deps ys ≤ 180 ∨ dep x ≤ 180) : isIn x (.tup ys) = some (anyEq x ys) := by
  show (if isDat x && Nat.ble (min (deps ys) (dep x)) 180 then _ else _) = _
  rw [h, if_pos]
  rw [Bool.true_and]
  exact Nat.ble_eq_true_of_le (by omega)
@[simp] theorem lenV_lst : lenV (.lst xs) = some (.int xs.length) := rfl
@[simp] theorem lenV_tup : lenV (.tup xs) = some (.int xs.length) := rfl
@[simp] theorem lenV_str (s : Str) : lenV (.str s) = some (.int s.length) := rfl
@[simp] theorem bifn_len : bifn .len [x] = lenV x := rfl
@[simp] theorem bifn_tuple : bifn .tuple [x] = omap .tup (seqOf x) := rfl
@[simp] theorem bifn_list : bifn .list [x] = omap .lst (listOf x) := rfl
@[simp] theorem bifn_abs : bifn .abs [.int i] = some (.int (if i < 0 then -i else i)) := rfl
@[simp] theorem bifn_int : bifn .int [.int i] = some (.int i) := rfl
@[simp] theorem bifn_min : bifn .min [.int i, .int j] = some (.int (if j < i then j else i)) := rfl
@[simp] theorem bifn_max : bifn .max [.int i, .int j] = some (.int (if j > i then j else i)) := rfl
@[simp] theorem bifn_isinst (t : Ty) : bifn (.isinst t) [x] = omap .bl (isTy t x) := rfl
@[simp] theorem seqOf_lst : seqOf (.lst xs) = some xs := rfl
@[simp] theorem seqOf_tup : seqOf (.tup xs) = some xs := rfl
@[simp] theorem listOf_lst : listOf (.lst xs) = some xs := rfl
@[simp] theorem listOf_tup : listOf (.tup xs) = some xs := rfl
@[simp] theorem listOf_opq : listOf (.opq 0 xs) = some xs := rfl
@[simp] theorem idxV_lst : idxV (.lst xs) (.int i) = L2.atI xs i := rfl
@[simp] theorem idxV_tup : idxV (.tup xs) (.int i) = L2.atI xs i := rfl
@[simp] theorem rvV_lst : rvV (.lst xs) = some (.lst xs.reverse) := rfl
@[simp] theorem rvV_tup : rvV (.tup xs) = some (.tup xs.reverse) := rfl
@[simp] theorem items_lst : items .plain [.lst xs] = some xs := rfl
@[simp] theorem items_tup : items .plain [.tup xs] = some xs := rfl
@[simp] theorem items_zl : items .zip [.lst xs, .lst ys] = some (zipV xs ys) := rfl
@[simp] theorem items_zt : items .zip [.tup xs, .tup ys] = some (zipV xs ys) := rfl
@[simp] theorem bifn_all (bs : List Bool) : bifn .all [.lst (bs.map .bl)] = some (.bl (bs.all id)) := by
  have h : bools (bs.map .bl) = some bs := by
    induction bs with
    | nil => rfl
    | cons b bs ih =>
      show (bools (bs.map .bl)).map (b :: ·) = _
      rw [ih]
      rfl
  show omap (fun l => Val.bl (l.all id)) (bools (bs.map .bl)) = _
  rw [h]
  rfl
theorem items_range1 (h : 0 ≤ i) (h2 : i ≤ LIM) : items .range [.int i] = some (upFrom 0 i.toNat) := by
  have e : LIM = 16000000 := rfl
  show (if rng i && Nat.ble i.toNat LIM then _ else _) = _
  rw [if_pos]
  unfold rng
  simp only [Bool.and_eq_true, decide_eq_true_eq]
  exact ⟨⟨by omega, by omega⟩, Nat.ble_eq_true_of_le (by omega)⟩
theorem appV_lst (h : xs.length ≤ LIM) : appV (.lst xs) x = some (.lst (xs ++ [x])) := by
  show (if Nat.ble xs.length LIM then _ else _) = _
  rw [if_pos (Nat.ble_eq_true_of_le h)]
end
theorem atI_int {α : Type} {xs : List α} {i : Int} (h0 : 0 ≤ i) (h1 : i < xs.length) : L2.atI xs i = xs[i.toNat]? := by
  unfold L2.atI L2.ixN
  rw [if_pos h0, if_pos h1]
  rfl
theorem atI_map {α β : Type} (f : α → β) (xs : List α) (i : Int) : L2.atI (xs.map f) i = (L2.atI xs i).map f := by
  unfold L2.atI
  rw [List.length_map]
  cases L2.ixN xs.length i with
  | none => rfl
  | some j => simp
theorem atI_some2 {α : Type} {xs : List α} {i : Int} (h0 : 0 ≤ i) (h1 : i < xs.length) : ∃ v, L2.atI xs i = some v ∧ v ∈ xs ∧ xs[i.toNat]? = some v := by
  rw [atI_int h0 h1]
  have h : i.toNat < xs.length := by omega
  exact ⟨xs[i.toNat], List.getElem?_eq_getElem h, List.getElem_mem h, List.getElem?_eq_getElem h⟩
theorem setL_int {xs : List Val} {i : Int} (v : Val) (h0 : 0 ≤ i) (h1 : i < xs.length) : setV (.lst xs) i v = some (.lst (xs.set i.toNat v)) := by
  show (setL xs i v).map Val.lst = _
  unfold setL L2.ixN
  rw [if_pos h0, if_pos h1]
  rfl
/-! ### loops -/
/-- what follows a statement -/
inductive WpO : O → (Env → Prop) → (Val → Env → Prop) → (Env → Prop) → Prop
  | nx {e : Env} {N : Env → Prop} {Rt : Val → Env → Prop} {B : Env → Prop} : N e → WpO (.nx e) N Rt B
  | ret {v : Val} {e : Env} {N : Env → Prop} {Rt : Val → Env → Prop} {B : Env → Prop} : Rt v e → WpO (.ret v e) N Rt B
  | brk {e : Env} {N : Env → Prop} {Rt : Val → Env → Prop} {B : Env → Prop} : B e → WpO (.brk e) N Rt B
section
variable {N : Env → Prop} {Rt : Val → Env → Prop} {B : Env → Prop}
@[simp] theorem WpO_nx (e : Env) : WpO (.nx e) N Rt B = N e := propext ⟨fun h => by cases h with | nx h => exact h, .nx⟩
@[simp] theorem WpO_ret (v : Val) (e : Env) : WpO (.ret v e) N Rt B = Rt v e := propext ⟨fun h => by cases h with | ret h => exact h, .ret⟩
@[simp] theorem WpO_brk (e : Env) : WpO (.brk e) N Rt B = B e := propext ⟨fun h => by cases h with | brk h => exact h, .brk⟩
theorem WpO_seq {o : O} {k : Env → O} (h : WpO o (fun e => WpO (k e) N Rt B) Rt B) : WpO (seqO o k) N Rt B := by
  cases h with
  | nx h => exact h
  | ret h => exact .ret h
  | brk h => exact .brk h
theorem WpO_mono {o : O} {N' : Env → Prop} {Rt' : Val → Env → Prop} {B' : Env → Prop} (h : WpO o N Rt B) (hn : ∀ e, N e → N' e) (hr : ∀ v e, Rt v e → Rt' v e) (hb : ∀ e, B e → B' e) : WpO o N' Rt' B' := by
  cases h with
  | nx h => exact .nx (hn _ h)
  | ret h => exact .ret (hr _ _ h)
  | brk h => exact .brk (hb _ h)
/-- behind a turn of a loop -/
theorem WpO_turn {o : O} {k : Env → O} {I : Env → Prop} (h : WpO o I Rt N) (hk : ∀ e, I e → WpO (k e) N Rt B) : WpO (turnO o k) N Rt B := by
  cases h with
  | nx h => exact hk _ h
  | ret h => exact .ret h
  | brk h => exact .nx h
theorem wp_for {t : Tgt} {body : Env → O} (I : List Val → Env → Prop)
    (h0 : ∀ e, I [] e → N e) (hs : ∀ x xs e, I (x :: xs) e → ∃ e1, bindT t x e = some e1 ∧ WpO (body e1) (fun e2 => I xs e2) Rt N) : ∀ (xs : List Val) (e : Env), I xs e → WpO (forN t body xs e) N Rt B
  | [], e, h => .nx (h0 e h)
  | x :: xs, e, h => by
    obtain ⟨e1, hb, hw⟩ := hs x xs e h
    rw [forN_cons, hb, bindXO_some]
    exact WpO_turn hw fun e2 h2 => wp_for I h0 hs xs e2 h2
theorem wp_whl {c : Env → R Val} {body : Env → O} (I : Nat → Env → Prop)
    (hs : ∀ m e, I m e → ∃ b e1, c e = .ok (.bl b) e1 ∧ (b = false → N e1) ∧ (b = true → WpO (body e1) (fun e2 => ∃ m', m' < m ∧ I m' e2) Rt N)) : ∀ (n m : Nat) (e : Env), m < n → I m e → WpO (whlN c body n e) N Rt B
  | 0, m, e, hn, h => absurd hn (Nat.not_lt_zero _)
  | n + 1, m, e, hn, h => by
    obtain ⟨b, e1, hc, hf, ht⟩ := hs m e h
    rw [whlN_succ, hc, bindOB_ok]
    cases b with
    | false => exact .nx (hf rfl)
    | true => exact WpO_turn (ht rfl) fun e2 ⟨m', hm, hi⟩ => wp_whl I hs n m' e2 (by omega) hi
end
/-- a comprehension that leaves the slots -/
theorem comp_map {t : Tgt} {cond elt : Env → R Val} {e : Env} (c : Val → Bool) (g : Val → Val) : ∀ xs : List Val,
    (∀ x, x ∈ xs → ∃ e1, bindT t x e = some e1 ∧ kills t.slots e1 = e ∧ cond e1 = .ok (.bl (c x)) e1 ∧ (c x = true → elt e1 = .ok (g x) e1)) → compN t cond elt xs e = .ok ((xs.filter c).map g) e
  | [], _ => rfl
  | x :: xs, h => by
    obtain ⟨e1, h1, h2, h3, h4⟩ := h x (by simp)
    have ih := comp_map c g xs fun y hy => h y (by simp [hy])
    rw [compN_cons, h1, bindX_some, h3, calm_ok, bindB_ok]
    cases hc : c x with
    | false => rw [sel_false, h2, ih, List.filter_cons, hc]; simp
    | true => rw [sel_true, h4 hc, calm_ok, bindR_ok, h2, ih, bindR_ok, List.filter_cons, hc]; simp
theorem comp_all {t : Tgt} {elt : Env → R Val} {C : Nat → List Val → RC} {e : Env} (g : Val → Val) (xs : List Val)
    (h : ∀ x, x ∈ xs → ∃ e1, bindT t x e = some e1 ∧ kills t.slots e1 = e ∧ elt e1 = .ok (g x) e1) : compN t (testOf (evs C [])) elt xs e = .ok (xs.map g) e := by
  rw [comp_map (fun _ => true) g xs fun x hx => by
    obtain ⟨e1, h1, h2, h3⟩ := h x hx
    exact ⟨e1, h1, h2, rfl, fun _ => h3⟩]
  rw [List.filter_eq_self.mpr fun _ _ => rfl]
/-- a comprehension with a state -/
theorem comp_inv {t : Tgt} {elt : Env → R Val} {C : Nat → List Val → RC} (I : Env → Prop) (J : Val → Prop) : ∀ (xs : List Val) (e : Env), I e →
    (∀ x e, x ∈ xs → I e → ∃ e1 v e2, bindT t x e = some e1 ∧ elt e1 = .ok v e2 ∧ J v ∧ I (kills t.slots e2)) → ∃ ys e2, compN t (testOf (evs C [])) elt xs e = .ok ys e2 ∧ I e2 ∧ ys.length = xs.length ∧ ∀ y, y ∈ ys → J y
  | [], e, h, _ => ⟨[], e, rfl, h, rfl, fun _ z => nomatch z⟩
  | x :: xs, e, h, hs => by
    obtain ⟨e1, v, e2, h1, h2, h3, h4⟩ := hs x e (by simp) h
    obtain ⟨ys, e3, h5, h6, h7, h8⟩ := comp_inv I J xs (kills t.slots e2) h4 fun y e hy => hs y e (by simp [hy])
    refine ⟨v :: ys, e3, ?_, h6, by simp [h7], fun y hy => ?_⟩
    · rw [compN_cons, h1, bindX_some, testOf_nil, calm_ok, bindB_ok, sel_true, h2, calm_ok, bindR_ok, h5, bindR_ok]
    · rcases List.mem_cons.mp hy with e | hy
      · rw [e]; exact h3
      · exact h8 y hy
end Mp
set_option Elab.async false
set_option linter.all false
set_option maxRecDepth 10000
/-! # plain values -/
namespace Mp
open PySem
mutual
/-- data through and through, with parts of at most n items -/
def dat (n : Nat) : Val → Bool
  | .tup xs => Nat.ble xs.length n && dats n xs
  | .lst xs => Nat.ble xs.length n && dats n xs
  | .non => true
  | .bl _ => true
  | .int _ => true
  | .str _ => true
  | _ => false
def dats (n : Nat) : List Val → Bool
  | [] => true
  | x :: xs => dat n x && dats n xs
end
theorem dat_isDat {n : Nat} {v : Val} (h : dat n v = true) : isDat v = true := by
  cases v <;> first | rfl | (unfold dat at h; cases h)
theorem dats_iff {n : Nat} : ∀ {xs : List Val}, dats n xs = true ↔ ∀ x, x ∈ xs → dat n x = true
  | [] => ⟨fun _ _ z => (nomatch z), fun _ => by rw [dats]⟩
  | x :: xs => by
    unfold dats
    rw [Bool.and_eq_true, dats_iff]
    constructor
    · intro h y hy
      rcases List.mem_cons.mp hy with e | hy
      · rw [e]; exact h.1
      · exact h.2 y hy
    · intro h
      exact ⟨h x (by simp), fun y hy => h y (by simp [hy])⟩
theorem dat_tup {n : Nat} {xs : List Val} : dat n (.tup xs) = true ↔ xs.length ≤ n ∧ ∀ x, x ∈ xs → dat n x = true := by
  rw [dat, Bool.and_eq_true, dats_iff]
  exact and_congr_left fun _ => ⟨Nat.le_of_ble_eq_true, Nat.ble_eq_true_of_le⟩
theorem dat_lst {n : Nat} {xs : List Val} : dat n (.lst xs) = true ↔ xs.length ≤ n ∧ ∀ x, x ∈ xs → dat n x = true := by
  rw [dat, Bool.and_eq_true, dats_iff]
  exact and_congr_left fun _ => ⟨Nat.le_of_ble_eq_true, Nat.ble_eq_true_of_le⟩
@[simp] theorem dat_non (n : Nat) : dat n .non = true := by unfold dat; rfl
@[simp] theorem dat_bl (n : Nat) (b : Bool) : dat n (.bl b) = true := by unfold dat; rfl
@[simp] theorem dat_int (n : Nat) (b : Int) : dat n (.int b) = true := by unfold dat; rfl
@[simp] theorem dat_str (n : Nat) (b : Str) : dat n (.str b) = true := by unfold dat; rfl
theorem dat_mono {n m : Nat} (h : n ≤ m) : ∀ {v : Val}, dat n v = true → dat m v = true := by
  intro v
  induction v using Val.rec (motive_2 := fun xs => ∀ x, x ∈ xs → dat n x = true → dat m x = true) with
  | undef => intro q; unfold dat at q; cases q
  | dct ks vs _ _ => intro q; unfold dat at q; cases q
  | opq k xs _ => intro q; unfold dat at q; cases q
  | tup xs ih =>
    intro q
    rw [dat_tup] at q ⊢
    exact ⟨Nat.le_trans q.1 h, fun x hx => ih x hx (q.2 x hx)⟩
  | lst xs ih =>
    intro q
    rw [dat_lst] at q ⊢
    exact ⟨Nat.le_trans q.1 h, fun x hx => ih x hx (q.2 x hx)⟩
  | nil => exact nomatch ‹_ ∈ []›
  | cons x xs h1 h2 =>
    rename_i y hq q
    have hy := hq
    rcases List.mem_cons.mp hy with e | hy
    · rw [e] at q ⊢; exact h1 q
    · exact h2 y hy q
  | _ => intro _; simp

/-! ### what the words say of values -/
def isI : Val → Bool
  | .int _ => true
  | _ => false
def isW (v : Val) (lo hi : Int) : Bool := match v with
  | .int i => decide (lo ≤ i) && decide (i ≤ hi)
  | _ => false
def isT (v : Val) (lo hi : Int) : Bool := match v with
  | .tup xs => decide (lo ≤ (xs.length : Int)) && decide ((xs.length : Int) ≤ hi)
  | _ => false
def parts : Val → List Val
  | .tup xs => xs
  | .lst xs => xs
  | _ => []
def areTh (many : Int) (v : Val) (lo hi : Int) : Bool := isT v lo hi && (parts v).all fun x => isW x 0 (many - 1)
def isPr (v : Val) : Bool := isT v 1 8 && (parts v).all fun l => areTh (parts v).length l (parts v).length (parts v).length
def sortV : Val → Int
  | .non => 0
  | .bl _ => 1
  | .int _ => 2
  | .str _ => 3
  | .tup _ => 4
  | .lst _ => 5
  | _ => 6
/-! ### products -/
def rowV (l : List Int) : Val := .tup (l.map .int)
def prV (p : List (List Int)) : Val := .tup (p.map rowV)
structure Prd (p : List (List Int)) : Prop where
  pos : 1 ≤ p.length
  le : p.length ≤ 8
  sq : ∀ l, l ∈ p → l.length = p.length
  lt : ∀ l, l ∈ p → ∀ x, x ∈ l → 0 ≤ x ∧ x < p.length
theorem all_map {α β : Type} (f : α → β) (q : β → Bool) (l : List α) : (l.map f).all q = l.all fun x => q (f x) := by
  rw [List.all_map]; rfl
theorem Prd.is {p : List (List Int)} (h : Prd p) : isPr (prV p) = true := by
  have h1 := h.pos
  have h2 := h.le
  unfold isPr prV isT parts
  simp only [List.length_map, Bool.and_eq_true, decide_eq_true_eq, List.all_eq_true, List.mem_map, forall_exists_index, and_imp]
  refine ⟨⟨by omega, by omega⟩, fun v l hl e => ?_⟩
  subst e
  unfold areTh rowV isT parts
  simp only [List.length_map, Bool.and_eq_true, decide_eq_true_eq, List.all_eq_true, List.mem_map, forall_exists_index, and_imp]
  rw [h.sq l hl]
  refine ⟨⟨by omega, by omega⟩, fun v x hx e => ?_⟩
  subst e
  have := h.lt l hl x hx
  unfold isW
  simp only [Bool.and_eq_true, decide_eq_true_eq]
  omega
/-! ### the cup -/
def Cup (c : Val) : Prop := ∃ a b : Int, c = .lst [.int a, .int b] ∧ 0 ≤ a ∧ 0 ≤ b ∧ b < 2147483648
theorem Cup.dat {c : Val} (h : Cup c) : isDat c = true := by
  obtain ⟨a, b, e, _⟩ := h
  rw [e]; rfl
theorem small_of {i : Int} (h : -18446744073709551616 < i) (h2 : i < 18446744073709551616) : small i = true := by
  unfold small big
  simp [h, h2]
end Mp
namespace Mp
open PySem
theorem call_wp {o : O} {kd : List Nat} {Q : Val → List Val → Prop} (h : WpO o (fun e => Q .non (outsOf kd e)) (fun v e => Q v (outsOf kd e)) (fun _ => False)) : ∃ v outs, endO kd o = .ok v outs ∧ Q v outs := by
  cases h with
  | nx h => exact ⟨_, _, rfl, h⟩
  | ret h => exact ⟨_, _, rfl, h⟩
  | brk h => exact h.elim
theorem upFrom_eq : ∀ (n : Nat) (a : Int), upFrom a n = (List.range n).map fun i => .int (a + i)
  | 0, a => rfl
  | n + 1, a => by
    show Val.int a :: upFrom (a + 1) n = _
    rw [upFrom_eq n (a + 1), List.range_succ_eq_map, List.map_cons, List.map_map]
    congr 1
    · simp
    · apply List.map_congr_left
      intro i _
      simp only [Function.comp]
      congr 1
      omega
theorem upFrom_len2 (n : Nat) (a : Int) : (upFrom a n).length = n := by rw [upFrom_eq, List.length_map, List.length_range]
theorem upFrom_mem {n : Nat} {a : Int} {x : Val} (h : x ∈ upFrom a n) : ∃ i : Int, x = .int i ∧ a ≤ i ∧ i < a + n := by
  rw [upFrom_eq] at h
  obtain ⟨i, hi, e⟩ := List.mem_map.mp h
  have := List.mem_range.mp hi
  exact ⟨a + i, e.symm, by omega, by omega⟩
theorem wp_range {t : Tgt} {body : Env → O} {Nx : Env → Prop} {Rt : Val → Env → Prop} {B : Env → Prop} {lo : Int} {n : Nat} (I : Nat → Env → Prop) (h0 : ∀ e, I n e → Nx e)
    (hs : ∀ i e, i < n → I i e → ∃ e1, bindT t (.int (lo + i)) e = some e1 ∧ WpO (body e1) (fun e2 => I (i + 1) e2) Rt Nx) {e : Env} (h : I 0 e) : WpO (forN t body (upFrom lo n) e) Nx Rt B := by
  refine wp_for (fun xs e => ∃ i, i ≤ n ∧ xs = upFrom (lo + i) (n - i) ∧ I i e) ?_ ?_ _ e ⟨0, Nat.zero_le _, by simp, h⟩
  · intro e ⟨i, hi, hx, hI⟩
    have hl := congrArg List.length hx
    rw [upFrom_len2] at hl
    have e : i = n := by
      have : (0 : Nat) = n - i := hl
      omega
    subst e
    exact h0 _ hI
  · intro x xs e ⟨i, hi, hx, hI⟩
    have hl := congrArg List.length hx
    rw [upFrom_len2, List.length_cons] at hl
    obtain ⟨k, hk⟩ : ∃ k, n - i = k + 1 := ⟨n - i - 1, by omega⟩
    rw [hk] at hx
    injection hx with hx1 hx2
    subst hx1
    obtain ⟨e1, h1, h2⟩ := hs i e (by omega) hI
    refine ⟨e1, h1, WpO_mono h2 (fun e2 hI2 => ⟨i + 1, by omega, ?_, hI2⟩) (fun _ _ z => z) (fun _ z => z)⟩
    rw [hx2, show n - (i + 1) = k by omega]
    congr 1
    omega
theorem wp_list {α : Type} {f : α → Val} {t : Tgt} {body : Env → O} {Nx : Env → Prop} {Rt : Val → Env → Prop} {B : Env → Prop} (I : List α → Env → Prop) (h0 : ∀ e, I [] e → Nx e)
    (hs : ∀ x xs e, I (x :: xs) e → ∃ e1, bindT t (f x) e = some e1 ∧ WpO (body e1) (fun e2 => I xs e2) Rt Nx) : ∀ (xs : List α) {e : Env}, I xs e → WpO (forN t body (xs.map f) e) Nx Rt B := by
  intro xs e h
  refine wp_for (fun ys e => ∃ xs : List α, ys = xs.map f ∧ I xs e) ?_ ?_ _ e ⟨xs, rfl, h⟩
  · intro e ⟨ys, hy, hI⟩
    cases ys with
    | nil => exact h0 _ hI
    | cons => cases hy
  · intro x ys e ⟨zs, hy, hI⟩
    cases zs with
    | nil => cases hy
    | cons z zs =>
      injection hy with h1 h2
      subst h1
      obtain ⟨e1, h1, h3⟩ := hs z zs e hI
      exact ⟨e1, h1, WpO_mono h3 (fun e2 q => ⟨zs, h2, q⟩) (fun _ _ z => z) (fun _ z => z)⟩
theorem zipV_self : ∀ (xs : List Val) (x : Val), x ∈ zipV xs xs → ∃ a, a ∈ xs ∧ x = .tup [a, a]
  | [], _, h => nomatch h
  | y :: ys, x, h => by
    rcases List.mem_cons.mp (show x ∈ .tup [y, y] :: zipV ys ys from h) with e | h
    · exact ⟨y, by simp, e⟩
    · obtain ⟨a, ha, e⟩ := zipV_self ys x h
      exact ⟨a, by simp [ha], e⟩
theorem zipV_len2 : ∀ (xs : List Val), (zipV xs xs).length = xs.length
  | [] => rfl
  | y :: ys => by
    show (zipV ys ys).length + 1 = _
    rw [zipV_len2 ys]
    rfl
theorem dep_mem : ∀ {xs : List Val} {x : Val} {d : Nat}, deps xs ≤ d → x ∈ xs → dep x ≤ d
  | y :: ys, x, d, h, hx => by
    rw [deps] at h
    rcases List.mem_cons.mp hx with e | hx
    · rw [e]; omega
    · exact dep_mem (show deps ys ≤ d by omega) hx
end Mp
namespace Mp
open PySem
theorem sIx_pos (n d : Nat) {k : Int} (h : 0 ≤ k) : HT.sIx n d (some k) = min k.toNat n := by
  show (if k < 0 then (k + (n : Int)).toNat else min k.toNat n) = _
  rw [if_neg (by omega)]
theorem cut_to {α : Type} (xs : List α) {k : Int} (h : 0 ≤ k) : cutL xs none (some k) = xs.take k.toNat := by
  unfold cutL
  rw [sIx_pos _ _ h]
  show (xs.drop 0).take (min k.toNat xs.length - 0) = _
  rw [List.drop_zero, Nat.sub_zero]
  rcases Nat.le_total k.toNat xs.length with q | q
  · rw [Nat.min_eq_left q]
  · rw [Nat.min_eq_right q, List.take_length, List.take_of_length_le q]
theorem cut_from {α : Type} (xs : List α) {k : Int} (h : 0 ≤ k) : cutL xs (some k) none = xs.drop k.toNat := by
  unfold cutL
  rw [sIx_pos _ _ h]
  show (xs.drop (min k.toNat xs.length)).take (xs.length - min k.toNat xs.length) = _
  rcases Nat.le_total k.toNat xs.length with q | q
  · rw [Nat.min_eq_left q, List.take_of_length_le (by rw [List.length_drop]; omega)]
  · rw [Nat.min_eq_right q, Nat.sub_self, List.take_zero, List.drop_of_length_le q]
theorem slc_to_l (xs : List Val) {k : Int} (h : 0 ≤ k) : slcV (.lst xs) [] [.int k] = some (.lst (xs.take k.toNat)) := by
  rw [← cut_to xs h]; rfl
theorem slc_from_l (xs : List Val) {k : Int} (h : 0 ≤ k) : slcV (.lst xs) [.int k] [] = some (.lst (xs.drop k.toNat)) := by
  rw [← cut_from xs h]; rfl
theorem slc_to_t (xs : List Val) {k : Int} (h : 0 ≤ k) : slcV (.tup xs) [] [.int k] = some (.tup (xs.take k.toNat)) := by
  rw [← cut_to xs h]; rfl
theorem slc_from_t (xs : List Val) {k : Int} (h : 0 ≤ k) : slcV (.tup xs) [.int k] [] = some (.tup (xs.drop k.toNat)) := by
  rw [← cut_from xs h]; rfl
@[simp] theorem partOf_nil : partOf [] = some none := rfl
@[simp] theorem partOf_int (i : Int) : partOf [.int i] = some (some i) := rfl
theorem split_at {α : Type} {l : List α} {a : Nat} (h : a < l.length) : ∃ pre x post, l = pre ++ x :: post ∧ pre.length = a :=
  ⟨l.take a, l[a], l.drop (a + 1), by rw [List.getElem_cons_drop, List.take_append_drop], by rw [List.length_take]; omega⟩
theorem split_at2 {α : Type} {l : List α} {a : Nat} (h : a + 1 < l.length) : ∃ pre x y post, l = pre ++ x :: y :: post ∧ pre.length = a := by
  obtain ⟨pre, x, post, e, hl⟩ := split_at (show a < l.length by omega)
  cases post with
  | nil => rw [e] at h; simp at h; omega
  | cons y post => exact ⟨pre, x, y, post, e, hl⟩
theorem le_LIM {n : Nat} (h : n ≤ 100000) : n ≤ LIM := Nat.le_trans h (by decide)
theorem range_items (M : Nat) (h : M ≤ 100000) : items .range [.int (M : Int)] = some (upFrom 0 M) := by
  rw [items_range1 _ (by omega) (by have := le_LIM h; omega)]
  simp
theorem call_ok {kd : List Nat} {o : O} {Q : Val → List Val → Prop} (h : WpO o (fun e => Q .non (outsOf kd e)) (fun v e => Q v (outsOf kd e)) (fun _ => False)) : ∃ v outs, endO kd o = .ok v outs ∧ Q v outs := call_wp h
end Mp
namespace Mp
open PySem
def bodyOf : S → List S
  | .loop _ _ _ b => b
  | .whl _ _ b => b
  | _ => []
def nthS : List S → Nat → S
  | [], _ => .pass
  | s :: _, 0 => s
  | _ :: r, n + 1 => nthS r n
end Mp
namespace Mp
open PySem
theorem comp_list {α : Type} {t : Tgt} {elt : Env → R Val} {C : Nat → List Val → RC} {e : Env} (f g : α → Val) (xs : List α)
    (h : ∀ x, x ∈ xs → ∃ e1, bindT t (f x) e = some e1 ∧ kills t.slots e1 = e ∧ elt e1 = .ok (g x) e1) : compN t (testOf (evs C [])) elt (xs.map f) e = .ok (xs.map g) e := by
  induction xs with
  | nil => rfl
  | cons x xs ih =>
    obtain ⟨e1, h1, h2, h3⟩ := h x (by simp)
    rw [List.map_cons, compN_cons, h1, bindX_some, testOf_nil, calm_ok, bindB_ok, sel_true, h3, calm_ok, bindR_ok, h2, ih fun y hy => h y (by simp [hy])]
    rfl
theorem comp_listF {α : Type} {t : Tgt} {cond elt : Env → R Val} {e : Env} (c : α → Bool) (f g : α → Val) (xs : List α)
    (h : ∀ x, x ∈ xs → ∃ e1, bindT t (f x) e = some e1 ∧ kills t.slots e1 = e ∧ cond e1 = .ok (.bl (c x)) e1 ∧ (c x = true → elt e1 = .ok (g x) e1)) : compN t cond elt (xs.map f) e = .ok ((xs.filter c).map g) e := by
  induction xs with
  | nil => rfl
  | cons x xs ih =>
    obtain ⟨e1, h1, h2, h3, h4⟩ := h x (by simp)
    have ih := ih fun y hy => h y (by simp [hy])
    rw [List.map_cons, compN_cons, h1, bindX_some, h3, calm_ok, bindB_ok]
    cases hc : c x with
    | false => rw [sel_false, h2, ih, List.filter_cons, hc]; simp
    | true => rw [sel_true, h4 hc, calm_ok, bindR_ok, h2, ih, bindR_ok, List.filter_cons, hc]; simp
theorem comp_range {t : Tgt} {elt : Env → R Val} {C : Nat → List Val → RC} {e : Env} (g : Nat → Val) (n : Nat)
    (h : ∀ i, i < n → ∃ e1, bindT t (.int i) e = some e1 ∧ kills t.slots e1 = e ∧ elt e1 = .ok (g i) e1) : compN t (testOf (evs C [])) elt (upFrom 0 n) e = .ok ((List.range n).map g) e := by
  rw [upFrom_eq]
  refine comp_list _ g _ fun i hi => ?_
  rw [Int.zero_add]
  exact h i (List.mem_range.mp hi)
theorem map_range_getD {α β : Type} (l : List α) (d : α) (f : α → β) : (List.range l.length).map (fun i => f (l.getD i d)) = l.map f := by
  apply List.ext_getElem
  · simp
  · intro i h1 h2
    simp at h1
    simp [h1]
end Mp
namespace Mp
open PySem
mutual
def vEqB : Val → Val → Bool
  | .undef, .undef => true
  | .non, .non => true
  | .bl a, .bl b => a == b
  | .int a, .int b => a == b
  | .str a, .str b => a == b
  | .tup a, .tup b => vsEqB a b
  | .lst a, .lst b => vsEqB a b
  | _, _ => false
def vsEqB : List Val → List Val → Bool
  | [], [] => true
  | a :: x, b :: y => vEqB a b && vsEqB x y
  | _, _ => false
end
theorem vEqB_eq : ∀ {a b : Val}, vEqB a b = true → a = b := by
  intro a
  induction a using Val.rec (motive_2 := fun xs => ∀ ys, vsEqB xs ys = true → xs = ys) with
  | tup xs ih =>
    intro b h
    cases b <;> first | (simp [vEqB] at h; done) | skip
    rw [vEqB] at h
    rw [ih _ h]
  | lst xs ih =>
    intro b h
    cases b <;> first | (simp [vEqB] at h; done) | skip
    rw [vEqB] at h
    rw [ih _ h]
  | nil =>
    rename_i ys h
    cases ys with
    | nil => rfl
    | cons => simp [vsEqB] at h
  | cons x xs h1 h2 =>
    rename_i ys h
    cases ys with
    | nil => simp [vsEqB] at h
    | cons y ys =>
      rw [vsEqB, Bool.and_eq_true] at h
      rw [h1 h.1, h2 _ h.2]
  | _ =>
    intro b h
    cases b <;> simp [vEqB] at h <;> simp_all
/-- a call's closed result -/
def rcIs (r : RC) (v : Val) : Bool := match r with
  | .ok w [] => vEqB w v
  | _ => false
theorem rcIs_eq {r : RC} {v : Val} (h : rcIs r v = true) : r = .ok v [] := by
  unfold rcIs at h
  split at h
  · rw [vEqB_eq h]
  · cases h
end Mp
set_option Elab.async false
set_option linter.all false
set_option maxRecDepth 10000
/-! # terms -/
namespace Mp
open PySem
inductive Tm where
  | lf (k : Fin 4)
  | nd (l r : Tm)
  deriving Inhabited
def letS (k : Fin 4) : Str := ⟨#[97 + k.val]⟩
def star : Str := ⟨#[42]⟩
def Tm.val : Tm → Val
  | .lf k => .str (letS k)
  | .nd l r => .tup [.str star, l.val, r.val]
def Tm.cnt : Tm → Nat
  | .lf _ => 1
  | .nd l r => l.cnt + r.cnt
def Tm.size : Tm → Nat
  | .lf _ => 1
  | .nd l r => 1 + l.size + r.size
theorem Tm.cnt_pos : ∀ t : Tm, 1 ≤ t.cnt
  | .lf _ => Nat.le_refl _
  | .nd l r => by have := l.cnt_pos; have := r.cnt_pos; show 1 ≤ l.cnt + r.cnt; omega
theorem Tm.size_eq : ∀ t : Tm, t.size + 1 = 2 * t.cnt
  | .lf _ => rfl
  | .nd l r => by have := l.size_eq; have := r.size_eq; show 1 + l.size + r.size + 1 = 2 * (l.cnt + r.cnt); omega
def isLet (s : Str) : Bool := s == letS 0 || s == letS 1 || s == letS 2 || s == letS 3
theorem isLet_letS (k : Fin 4) : isLet (letS k) = true := by
  match k with
  | 0 => decide
  | 1 => decide
  | 2 => decide
  | 3 => decide
theorem isLet_of {s : Str} (h : isLet s = true) : ∃ k, s = letS k := by
  unfold isLet at h
  simp only [Bool.or_eq_true, beq_iff_eq] at h
  rcases h with ((h | h) | h) | h
  · exact ⟨0, h⟩
  · exact ⟨1, h⟩
  · exact ⟨2, h⟩
  · exact ⟨3, h⟩
/-- a value as a term -/
inductive IsTm : Val → Tm → Prop
  | lf (k : Fin 4) : IsTm (.str (letS k)) (.lf k)
  | nd {a b : Val} {l r : Tm} : IsTm a l → IsTm b r → IsTm (.tup [.str star, a, b]) (.nd l r)
def osum : Option Nat → Option Nat → Option Nat
  | some a, some b => some (a + b)
  | _, _ => none
/-- how many letters -/
def cnt (v : Val) : Option Nat := match v with
  | .str s => if isLet s then some 1 else none
  | .tup [.str s, l, r] => if s == star then osum (cnt l) (cnt r) else none
  | _ => none
termination_by sizeOf v
decreasing_by all_goals (simp_wf; omega)
theorem osum_comm (a b : Option Nat) : osum a b = osum b a := by cases a <;> cases b <;> simp [osum, Nat.add_comm]
theorem osum_assoc (a b c : Option Nat) : osum (osum a b) c = osum a (osum b c) := by cases a <;> cases b <;> cases c <;> simp [osum, Nat.add_assoc]
def cnts : List Val → Option Nat
  | [] => some 0
  | x :: xs => osum (cnt x) (cnts xs)
theorem cnts_app : ∀ xs ys : List Val, cnts (xs ++ ys) = osum (cnts xs) (cnts ys)
  | [], ys => by
    show cnts ys = osum (some 0) (cnts ys)
    cases cnts ys <;> simp [osum]
  | x :: xs, ys => by
    show osum (cnt x) (cnts (xs ++ ys)) = osum (osum (cnt x) (cnts xs)) (cnts ys)
    rw [cnts_app xs ys, osum_assoc]
theorem cnt_str (s : Str) : cnt (.str s) = if isLet s then some 1 else none := by rw [cnt]
theorem cnt_nd (s : Str) (l r : Val) : cnt (.tup [.str s, l, r]) = if s == star then osum (cnt l) (cnt r) else none := by
  rw [cnt]
theorem cnt_else {v : Val} (h1 : ∀ s, v ≠ .str s) (h2 : ∀ s l r, v ≠ .tup [.str s, l, r]) : cnt v = none := by
  rw [cnt]
  · exact h1
  · exact h2
theorem osum_eq {a b : Option Nat} {n : Nat} (h : osum a b = some n) : ∃ i j, a = some i ∧ b = some j ∧ n = i + j := by
  cases a <;> cases b <;> simp [osum] at h
  exact ⟨_, _, rfl, rfl, h.symm⟩
theorem cnt_pos {v : Val} {n : Nat} (q : cnt v = some n) : 1 ≤ n := by
  by_cases h1 : ∃ s, v = .str s
  · obtain ⟨s, rfl⟩ := h1
    rw [cnt_str] at q
    by_cases h : isLet s
    · rw [if_pos h] at q; cases q; exact Nat.le_refl _
    · rw [if_neg h] at q; cases q
  · by_cases h2 : ∃ s l r, v = .tup [.str s, l, r]
    · obtain ⟨s, l, r, rfl⟩ := h2
      rw [cnt_nd] at q
      by_cases h : s == star
      · rw [if_pos h] at q
        obtain ⟨i, j, e1, e2, e3⟩ := osum_eq q
        have := cnt_pos e1
        omega
      · rw [if_neg h] at q; cases q
    · rw [cnt_else (fun s e => h1 ⟨s, e⟩) (fun s l r e => h2 ⟨s, l, r, e⟩)] at q
      cases q
termination_by sizeOf v
decreasing_by all_goals (subst_vars; simp_wf; omega)
theorem cnts_len : ∀ {xs : List Val} {n : Nat}, cnts xs = some n → xs.length ≤ n
  | [], n, _ => Nat.zero_le _
  | x :: xs, n, h => by
    have h : osum (cnt x) (cnts xs) = some n := h
    cases e1 : cnt x <;> cases e2 : cnts xs <;> rw [e1, e2] at h <;> simp [osum] at h
    have := cnt_pos e1
    have := cnts_len e2
    rw [List.length_cons]
    omega
def isTerm (v : Val) : Bool := match cnt v with
  | some n => Nat.ble n 40
  | none => false
theorem Tm.cnt_val : ∀ t : Tm, Mp.cnt t.val = some t.cnt
  | .lf k => by rw [Tm.val, cnt_str, if_pos (isLet_letS k)]; rfl
  | .nd l r => by rw [Tm.val, cnt_nd, if_pos (by decide), l.cnt_val, r.cnt_val]; rfl
theorem Tm.isTerm (t : Tm) (h : t.cnt ≤ 40) : isTerm t.val = true := by
  unfold Mp.isTerm
  rw [t.cnt_val]
  exact Nat.ble_eq_true_of_le h
theorem Tm.dat : ∀ t : Tm, Mp.dat 3 t.val = true
  | .lf k => by rw [Tm.val]; simp
  | .nd l r => by
    rw [Tm.val, dat_tup]
    refine ⟨Nat.le_refl _, fun x hx => ?_⟩
    simp at hx
    rcases hx with e | e | e <;> subst e
    · simp
    · exact l.dat
    · exact r.dat
/-- letters and stars by which a term is made -/
def Tm.post : Tm → List Val
  | .lf k => [.str (letS k)]
  | .nd l r => l.post ++ r.post ++ [Val.str star]
theorem Tm.post_len : ∀ t : Tm, t.post.length = t.size
  | .lf _ => rfl
  | .nd l r => by
    show (l.post ++ r.post ++ [Val.str star]).length = 1 + l.size + r.size
    rw [List.length_append, List.length_append, l.post_len, r.post_len]
    simp
    omega
/-- the product's entry -/
def rowAt (p : List (List Int)) (i : Int) : List Int := p.getD i.toNat []
def entAt (l : List Int) (i : Int) : Int := l.getD i.toNat 0
def mul (p : List (List Int)) (i j : Int) : Int := entAt (rowAt p i) j
def Tm.ev (p : List (List Int)) (th : List Int) : Tm → Int
  | .lf k => entAt th k.val
  | .nd l r => mul p (l.ev p th) (r.ev p th)
/-- things of a product -/
def Ths (p : List (List Int)) (l : List Int) : Prop := ∀ x, x ∈ l → 0 ≤ x ∧ x < p.length
theorem getD_mem {α : Type} {l : List α} {i : Nat} (h : i < l.length) (d : α) : l.getD i d ∈ l := by
  rw [List.getD_eq_getElem?_getD, List.getElem?_eq_getElem h]
  exact List.getElem_mem h
theorem Prd.mul {p : List (List Int)} (h : Prd p) {i j : Int} (hi : 0 ≤ i ∧ i < p.length) (hj : 0 ≤ j ∧ j < p.length) : 0 ≤ mul p i j ∧ mul p i j < p.length := by
  have h1 : i.toNat < p.length := by omega
  have m := getD_mem h1 ([] : List Int)
  have h2 : j.toNat < (p.getD i.toNat []).length := by rw [h.sq _ m]; omega
  exact h.lt _ m _ (getD_mem h2 0)
theorem Tm.ev_lt {p : List (List Int)} {th : List Int} (h : Prd p) (ht : Ths p th) (hl : th.length = 4) : ∀ t : Tm, 0 ≤ t.ev p th ∧ t.ev p th < p.length
  | .lf k => ht _ (getD_mem (by rw [hl]; exact k.isLt) 0)
  | .nd l r => h.mul (l.ev_lt h ht hl) (r.ev_lt h ht hl)
/-- items of a product, of a row -/
theorem idx_pr {p : List (List Int)} {i : Int} (h0 : 0 ≤ i) (h1 : i < p.length) : idxV (prV p) (.int i) = some (rowV (rowAt p i)) := by
  show L2.atI (p.map rowV) i = _
  rw [atI_map, atI_int h0 h1]
  have h : i.toNat < p.length := by omega
  rw [rowAt, List.getD_eq_getElem?_getD, List.getElem?_eq_getElem h]
  rfl
theorem idx_row {l : List Int} {i : Int} (h0 : 0 ≤ i) (h1 : i < l.length) : idxV (rowV l) (.int i) = some (.int (entAt l i)) := by
  show L2.atI (l.map Val.int) i = _
  rw [atI_map, atI_int h0 h1]
  have h : i.toNat < l.length := by omega
  rw [entAt, List.getD_eq_getElem?_getD, List.getElem?_eq_getElem h]
  rfl
theorem Prd.row {p : List (List Int)} (h : Prd p) {i : Int} (hi : 0 ≤ i ∧ i < p.length) : (rowAt p i).length = p.length := h.sq _ (getD_mem (by omega) [])
theorem Prd.at2 {p : List (List Int)} (h : Prd p) {i j : Int} (hi : 0 ≤ i ∧ i < p.length) (hj : 0 ≤ j ∧ j < p.length) : idxV (rowV (rowAt p i)) (.int j) = some (.int (Mp.mul p i j)) :=
  idx_row hj.1 (by rw [h.row hi]; exact hj.2)
end Mp
set_option Elab.async false
set_option linter.all false
set_option maxRecDepth 100000
/-! # rows of all things, tables -/
namespace Mp
open PySem
/-- things below n -/
def Below (n : Int) (l : List Int) : Prop := ∀ x, x ∈ l → 0 ≤ x ∧ x < n
def natsI (N : Nat) : List Int := (List.range N).map fun (i : Nat) => (i : Int)
theorem natsI_len (N : Nat) : (natsI N).length = N := by simp [natsI]
theorem natsI_mem {N : Nat} {x : Int} : x ∈ natsI N ↔ 0 ≤ x ∧ x < N := by
  constructor
  · intro h
    obtain ⟨i, hi, rfl⟩ := List.mem_map.mp h
    have := List.mem_range.mp hi
    omega
  · intro h
    exact List.mem_map.mpr ⟨x.toNat, List.mem_range.mpr (by omega), by omega⟩
theorem up_nats (N : Nat) : upFrom 0 N = (natsI N).map .int := by
  rw [upFrom_eq, natsI, List.map_map]
  apply List.map_congr_left
  intro i _
  simp
theorem natsI_get {N i : Nat} (h : i < N) : (natsI N)[i]? = some (i : Int) := by
  simp [natsI, h]
theorem natsI_nodup (N : Nat) : (natsI N).Nodup := by
  unfold natsI
  rw [List.Nodup, List.pairwise_map]
  exact (List.pairwise_lt_range).imp fun {a b} h => by omega
theorem natsI_sorted (N : Nat) : (natsI N).Pairwise (· ≤ ·) := by
  unfold natsI
  rw [List.pairwise_map]
  exact (List.pairwise_lt_range).imp fun {a b} h => by omega
/-- a row of all things -/
def Pm (n : Nat) (row : List Int) : Prop := row.Perm (natsI n)
theorem Pm.len {n : Nat} {row : List Int} (h : Pm n row) : row.length = n := by rw [List.Perm.length_eq h, natsI_len]
theorem Pm.mem {n : Nat} {row : List Int} (h : Pm n row) {x : Int} : x ∈ row ↔ 0 ≤ x ∧ x < n := by rw [List.Perm.mem_iff h, natsI_mem]
theorem Pm.below {n : Nat} {row : List Int} (h : Pm n row) : Below n row := fun x hx => h.mem.mp hx
theorem Pm.nodup {n : Nat} {row : List Int} (h : Pm n row) : row.Nodup := (List.Perm.nodup_iff h).mpr (natsI_nodup n)
/-- where a thing stands -/
def inv (row : List Int) (a : Int) : Int := (row.idxOf a : Nat)
theorem Pm.inv_lt {n : Nat} {row : List Int} (h : Pm n row) {a : Int} (ha : 0 ≤ a ∧ a < n) : 0 ≤ inv row a ∧ inv row a < n := by
  have := List.idxOf_lt_length_of_mem (h.mem.mpr ha)
  rw [h.len] at this
  unfold inv
  omega
theorem entAt_lt {l : List Int} {i : Int} (h0 : 0 ≤ i) (h1 : i < l.length) : l[i.toNat]? = some (entAt l i) := by
  unfold entAt
  have h : i.toNat < l.length := by omega
  rw [List.getD_eq_getElem?_getD, List.getElem?_eq_getElem h]
  rfl
theorem Pm.ent_inv {n : Nat} {row : List Int} (h : Pm n row) {a : Int} (ha : 0 ≤ a ∧ a < n) : entAt row (inv row a) = a := by
  have hm := h.mem.mpr ha
  have hl := List.idxOf_lt_length_of_mem hm
  unfold entAt inv
  rw [Int.toNat_natCast, List.getD_eq_getElem?_getD, List.getElem?_eq_getElem hl]
  simp
theorem Pm.inv_ent {n : Nat} {row : List Int} (h : Pm n row) {i : Int} (hi : 0 ≤ i ∧ i < n) : inv row (entAt row i) = i := by
  have hl : i.toNat < row.length := by rw [h.len]; omega
  have e : entAt row i = row[i.toNat] := by
    unfold entAt
    rw [List.getD_eq_getElem?_getD, List.getElem?_eq_getElem hl]
    rfl
  rw [e]
  unfold inv
  rw [List.Nodup.idxOf_getElem h.nodup]
  omega
theorem Pm.ent {n : Nat} {row : List Int} (h : Pm n row) {i : Int} (hi : 0 ≤ i ∧ i < n) : 0 ≤ entAt row i ∧ entAt row i < n := by
  refine h.below _ ?_
  unfold entAt
  exact getD_mem (by rw [h.len]; omega) 0
/-- square tables -/
def Sqr (n : Nat) (m : List (List Int)) : Prop := m.length = n ∧ ∀ r, r ∈ m → r.length = n
theorem Prd.sqr {p : List (List Int)} (h : Prd p) : Sqr p.length p := ⟨rfl, h.sq⟩
theorem rowAt_mem {m : List (List Int)} {i : Int} (h0 : 0 ≤ i) (h1 : i < m.length) : rowAt m i ∈ m := getD_mem (by omega) []
theorem rowAt_nat {m : List (List Int)} {i : Nat} (h : i < m.length) : rowAt m (i : Int) = m[i] := by
  unfold rowAt
  rw [Int.toNat_natCast, List.getD_eq_getElem?_getD, List.getElem?_eq_getElem h]
  rfl
theorem entAt_nat' {l : List Int} {i : Nat} (h : i < l.length) : entAt l (i : Int) = l[i] := by
  unfold entAt
  rw [Int.toNat_natCast, List.getD_eq_getElem?_getD, List.getElem?_eq_getElem h]
  rfl
theorem sqr_ext {n : Nat} {m m' : List (List Int)} (h : Sqr n m) (h' : Sqr n m') (e : ∀ i j : Nat, i < n → j < n → mul m i j = mul m' i j) : m = m' := by
  apply List.ext_getElem
  · rw [h.1, h'.1]
  · intro i h1 h2
    have l1 := h.2 _ (List.getElem_mem h1)
    have l2 := h'.2 _ (List.getElem_mem h2)
    apply List.ext_getElem
    · rw [l1, l2]
    · intro j h3 h4
      have := e i j (by rw [h.1] at h1; exact h1) (by rw [l1] at h3; exact h3)
      unfold mul at this
      rw [rowAt_nat h1, rowAt_nat h2, entAt_nat' h3, entAt_nat' h4] at this
      exact this
/-- a table by a rule -/
def tab (n : Nat) (f : Int → Int → Int) : List (List Int) := (natsI n).map fun a => (natsI n).map fun b => f a b
theorem tab_sqr (n : Nat) (f : Int → Int → Int) : Sqr n (tab n f) := by
  refine ⟨by unfold tab; rw [List.length_map, natsI_len], fun r hr => ?_⟩
  obtain ⟨a, _, rfl⟩ := List.mem_map.mp hr
  rw [List.length_map, natsI_len]
theorem natsI_getE {n i : Nat} (h : i < (natsI n).length) : (natsI n)[i] = (i : Int) := by
  have h2 : i < n := by rw [natsI_len] at h; exact h
  have := natsI_get h2
  rw [List.getElem?_eq_getElem h] at this
  exact Option.some.inj this
theorem mul_tab {n : Nat} {f : Int → Int → Int} {i j : Nat} (hi : i < n) (hj : j < n) : mul (tab n f) i j = f i j := by
  unfold mul
  rw [rowAt_nat (by rw [(tab_sqr n f).1]; exact hi)]
  have e : (tab n f)[i]'(by rw [(tab_sqr n f).1]; exact hi) = (natsI n).map fun b => f i b := by
    unfold tab
    rw [List.getElem_map, natsI_getE]
  rw [e, entAt_nat' (by rw [List.length_map, natsI_len]; exact hj), List.getElem_map, natsI_getE]
theorem mul_tabI {n : Nat} {f : Int → Int → Int} {a b : Int} (ha : 0 ≤ a ∧ a < n) (hb : 0 ≤ b ∧ b < n) : mul (tab n f) a b = f a b := by
  have h1 := mul_tab (f := f) (show a.toNat < n by omega) (show b.toNat < n by omega)
  rw [show ((a.toNat : Nat) : Int) = a by omega, show ((b.toNat : Nat) : Int) = b by omega] at h1
  exact h1
/-- the product with its things named anew -/
def ledP (p : List (List Int)) (row : List Int) : List (List Int) := tab p.length fun a b => entAt row (mul p (inv row a) (inv row b))
theorem ledP_len (p : List (List Int)) (row : List Int) : (ledP p row).length = p.length := (tab_sqr _ _).1
theorem Prd.tab {n : Nat} {f : Int → Int → Int} (h1 : 1 ≤ n) (h8 : n ≤ 8) (hf : ∀ a b : Int, 0 ≤ a ∧ a < n → 0 ≤ b ∧ b < n → 0 ≤ f a b ∧ f a b < n) : Prd (tab n f) := by
  have hs := tab_sqr n f
  refine ⟨by rw [hs.1]; exact h1, by rw [hs.1]; exact h8, fun l hl => by rw [hs.2 l hl, hs.1], fun l hl x hx => ?_⟩
  rw [hs.1]
  obtain ⟨a, ha, rfl⟩ := List.mem_map.mp hl
  obtain ⟨b, hb, rfl⟩ := List.mem_map.mp hx
  exact hf a b (natsI_mem.mp ha) (natsI_mem.mp hb)
theorem Prd.led {p : List (List Int)} (h : Prd p) {row : List Int} (hr : Pm p.length row) : Prd (ledP p row) :=
  Prd.tab h.pos h.le fun a b ha hb => hr.ent (h.mul (hr.inv_lt ha) (hr.inv_lt hb))
theorem mul_led {p : List (List Int)} {row : List Int} {a b : Int} (ha : 0 ≤ a ∧ a < p.length) (hb : 0 ≤ b ∧ b < p.length) : mul (ledP p row) a b = entAt row (mul p (inv row a) (inv row b)) := mul_tabI ha hb
/-! ### one entry set -/
def setM (m : List (List Int)) (a b v : Int) : List (List Int) := m.set a.toNat ((rowAt m a).set b.toNat v)
theorem setM_sqr {n : Nat} {m : List (List Int)} (h : Sqr n m) {a b v : Int} (ha : 0 ≤ a ∧ a < n) : Sqr n (setM m a b v) := by
  refine ⟨by unfold setM; rw [List.length_set]; exact h.1, fun r hr => ?_⟩
  rcases List.mem_or_eq_of_mem_set hr with q | q
  · exact h.2 r q
  · rw [q, List.length_set]
    exact h.2 _ (rowAt_mem ha.1 (by rw [h.1]; exact ha.2))
theorem mul_setM {n : Nat} {m : List (List Int)} (h : Sqr n m) {a b v : Int} (ha : 0 ≤ a ∧ a < n) (hb : 0 ≤ b ∧ b < n) {c d : Int} (hc : 0 ≤ c ∧ c < n) (hd : 0 ≤ d ∧ d < n) :
    mul (setM m a b v) c d = if a = c ∧ b = d then v else mul m c d := by
  have hra := h.2 _ (rowAt_mem ha.1 (by rw [h.1]; exact ha.2))
  unfold mul
  have e1 : rowAt (setM m a b v) c = if a = c then (rowAt m a).set b.toNat v else rowAt m c := by
    unfold setM rowAt
    rw [List.getD_eq_getElem?_getD, List.getElem?_set]
    by_cases q : a = c
    · subst q
      rw [if_pos rfl, if_pos rfl, if_pos (by rw [h.1]; omega)]
      rfl
    · rw [if_neg (by omega), if_neg q, List.getD_eq_getElem?_getD]
  rw [e1]
  by_cases q : a = c
  · subst q
    rw [if_pos rfl]
    unfold entAt
    rw [List.getD_eq_getElem?_getD, List.getElem?_set]
    by_cases q2 : b = d
    · subst q2
      rw [if_pos rfl, if_pos (by rw [hra]; omega), if_pos ⟨rfl, rfl⟩]
      rfl
    · rw [if_neg (by omega), if_neg (fun z => q2 z.2), List.getD_eq_getElem?_getD]
  · rw [if_neg q, if_neg (fun z => q z.1)]
end Mp
set_option maxRecDepth 100000
set_option maxHeartbeats 0
set_option linter.all false
set_option Elab.async false
namespace Mp
open PySem
noncomputable section
def i_is_integer : Nat := 0
def i_is_whole : Nat := 1
def i_is_tuple_of : Nat := 2
def i_is_rising : Nat := 3
def i_are_things : Nat := 4
def i_fits_product : Nat := 5
def i_need_product : Nat := 6
def i_need_thing : Nat := 7
def i_led_in : Nat := 8
def i_fits_row : Nat := 9
def i_turned_product : Nat := 10
def i_led_product : Nat := 11
def i_is_met : Nat := 12
def i_met_by : Nat := 13
def i_pairs_in : Nat := 14
def i_divisor_of : Nat := 15
def i_are_met : Nat := 16
def i_fits_meeting : Nat := 17
def i_full_in : Nat := 18
def i_do_meet : Nat := 19
def i_meeting_things : Nat := 20
def i_count_meeting_pairs : Nat := 21
def i_meeting_share : Nat := 22
def i_is_meeting_lot : Nat := 23
def i_full_meeting_lots : Nat := 24
def i__law_cup : Nat := 25
def i__law_roll : Nat := 26
def i__law_sort : Nat := 27
def i__law_like : Nat := 28
def i__law_some : Nat := 29
def i__law_product : Nat := 30
def i__law_order : Nat := 31
def i__law_led : Nat := 32
def i__law_lots : Nat := 33
def i__law_group : Nat := 34
def i__law_twice : Nat := 35
def i__law_common : Nat := 36
def i__law_is_met : Nat := 37
def i__law_right : Nat := 38
def i_law : Nat := 39
def p_is_integer : Fn := ⟨⟨#[105, 115, 95, 105, 110, 116, 101, 103, 101, 114]⟩, [⟨#[118, 97, 108, 117, 101]⟩], 1, 0, [0], 0,
  [.ret (.and (.bi (.isinst .int) [(.var 0)]) (.not (.bi (.isinst .bool) [(.var 0)])))]⟩
def p_is_whole : Fn := ⟨⟨#[105, 115, 95, 119, 104, 111, 108, 101]⟩, [⟨#[118, 97, 108, 117, 101]⟩, ⟨#[108, 111, 119]⟩, ⟨#[104, 105, 103, 104]⟩], 3, 0, [0, 0, 0], 0,
  [.ret (.and (.call i_is_integer [(.var 0)] [] 0) (.cmp2 .le .le (.var 1) (.var 0) (.var 2)))]⟩
def p_is_tuple_of : Fn := ⟨⟨#[105, 115, 95, 116, 117, 112, 108, 101, 95, 111, 102]⟩, [⟨#[118, 97, 108, 117, 101]⟩, ⟨#[108, 111, 119]⟩, ⟨#[104, 105, 103, 104]⟩], 3, 0, [0, 0, 0], 0,
  [.ret (.and (.bi (.isinst .tuple) [(.var 0)]) (.cmp2 .le .le (.var 1) (.bi .len [(.var 0)]) (.var 2)))]⟩
def p_is_rising : Fn := ⟨⟨#[105, 115, 95, 114, 105, 115, 105, 110, 103]⟩, [⟨#[116, 104, 105, 110, 103, 115]⟩, ⟨#[111, 110, 101]⟩, ⟨#[111, 116, 104, 101, 114]⟩], 1, 2, [0], 0,
  [.ret (.bi .all [(.comp (.tup [1, 2]) .zip [(.var 0), (.slc (.var 0) [(.int 1)] [])] [] (.cmp .lt (.var 1) (.var 2)))])]⟩
def p_are_things : Fn := ⟨⟨#[97, 114, 101, 95, 116, 104, 105, 110, 103, 115]⟩, [⟨#[109, 97, 110, 121]⟩, ⟨#[118, 97, 108, 117, 101]⟩, ⟨#[108, 111, 119]⟩, ⟨#[104, 105, 103, 104]⟩, ⟨#[116, 104, 105, 110, 103]⟩], 4, 1, [0, 0, 0, 0], 0,
  [.ret (.and (.call i_is_tuple_of [(.var 1), (.var 2), (.var 3)] [] 0) (.bi .all [(.comp (.one 4) .plain [(.var 1)] [] (.call i_is_whole [(.var 4), (.int 0), (.bin .sub (.var 0) (.int 1))] [] 0))]))]⟩
def p_fits_product : Fn := ⟨⟨#[102, 105, 116, 115, 95, 112, 114, 111, 100, 117, 99, 116]⟩, [⟨#[118, 97, 108, 117, 101]⟩, ⟨#[108, 105, 110, 101]⟩], 1, 1, [0], 0,
  [.ret (.and (.call i_is_tuple_of [(.var 0), (.int 1), (.cst ⟨#[77, 79, 83, 84]⟩ (.int 8))] [] 0) (.bi .all [(.comp (.one 1) .plain [(.var 0)] [] (.call i_are_things [(.bi .len [(.var 0)]), (.var 1), (.bi .len [(.var 0)]), (.bi .len [(.var 0)])] [] 0))]))]⟩
def p_need_product : Fn := ⟨⟨#[110, 101, 101, 100, 95, 112, 114, 111, 100, 117, 99, 116]⟩, [⟨#[118, 97, 108, 117, 101]⟩], 1, 0, [0], 1,
  [.ite (.not (.call i_fits_product [(.var 0)] [] 0))
    [.raise 1 [(.str ⟨#[110, 111, 32, 112, 114, 111, 100, 117, 99, 116]⟩)]]
    []]⟩
def p_need_thing : Fn := ⟨⟨#[110, 101, 101, 100, 95, 116, 104, 105, 110, 103]⟩, [⟨#[112, 114, 111, 100, 117, 99, 116]⟩, ⟨#[118, 97, 108, 117, 101]⟩], 2, 0, [0, 0], 1,
  [.ite (.not (.call i_is_whole [(.var 1), (.int 0), (.bin .sub (.bi .len [(.var 0)]) (.int 1))] [] 0))
    [.raise 2 [(.str ⟨#[110, 111, 32, 116, 104, 105, 110, 103]⟩)]]
    []]⟩
def p_led_in : Fn := ⟨⟨#[108, 101, 100, 95, 105, 110]⟩, [⟨#[112, 114, 111, 100, 117, 99, 116]⟩, ⟨#[114, 111, 119]⟩, ⟨#[98, 97, 99, 107]⟩, ⟨#[116, 104, 105, 110, 103]⟩, ⟨#[111, 116, 104, 101, 114]⟩, ⟨#[111, 110, 101]⟩], 2, 4, [0, 0], 0,
  [.asg 2 0 (.comp (.one 3) .range [(.bi .len [(.var 0)])] [] (.me .index (.var 1) [(.var 3)])),
    .ret (.bi .tuple [(.comp (.one 5) .plain [(.var 2)] [] (.bi .tuple [(.comp (.one 4) .plain [(.var 2)] [] (.idx (.var 1) (.idx (.idx (.var 0) (.var 5)) (.var 4))))]))])]⟩
def p_fits_row : Fn := ⟨⟨#[102, 105, 116, 115, 95, 114, 111, 119]⟩, [⟨#[109, 97, 110, 121]⟩, ⟨#[118, 97, 108, 117, 101]⟩], 2, 0, [0, 0], 0,
  [.ret (.and (.call i_are_things [(.var 0), (.var 1), (.var 0), (.var 0)] [] 0) (.cmp .eq (.bi .sorted [(.var 1)]) (.bi (.rg false) [(.var 0)])))]⟩
def p_turned_product : Fn := ⟨⟨#[116, 117, 114, 110, 101, 100, 95, 112, 114, 111, 100, 117, 99, 116]⟩, [⟨#[112, 114, 111, 100, 117, 99, 116]⟩, ⟨#[108, 105, 110, 101]⟩, ⟨#[116, 104, 105, 110, 103]⟩], 1, 2, [0], 0,
  [.ex (.call i_need_product [(.var 0)] [] 0),
    .ret (.bi .tuple [(.comp (.one 2) .range [(.bi .len [(.var 0)])] [] (.bi .tuple [(.comp (.one 1) .plain [(.var 0)] [] (.idx (.var 1) (.var 2)))]))])]⟩
def p_led_product : Fn := ⟨⟨#[108, 101, 100, 95, 112, 114, 111, 100, 117, 99, 116]⟩, [⟨#[112, 114, 111, 100, 117, 99, 116]⟩, ⟨#[114, 111, 119]⟩], 2, 0, [0, 0], 0,
  [.ex (.call i_need_product [(.var 0)] [] 0),
    .ite (.not (.call i_fits_row [(.bi .len [(.var 0)]), (.var 1)] [] 0))
    [.raise 3 [(.str ⟨#[110, 111, 32, 114, 111, 119, 32, 111, 102, 32, 97, 108, 108, 32, 116, 104, 105, 110, 103, 115]⟩)]]
    [],
    .ret (.call i_led_in [(.var 0), (.var 1)] [] 0)]⟩
def p_is_met : Fn := ⟨⟨#[105, 115, 95, 109, 101, 116]⟩, [⟨#[112, 114, 111, 100, 117, 99, 116]⟩, ⟨#[116, 104, 105, 110, 103]⟩, ⟨#[115, 101, 99, 111, 110, 100]⟩], 3, 0, [0, 0, 0], 0,
  [.ret (.cmp .eq (.idx (.idx (.var 0) (.var 1)) (.var 2)) (.idx (.idx (.var 0) (.var 2)) (.var 1)))]⟩
def p_met_by : Fn := ⟨⟨#[109, 101, 116, 95, 98, 121]⟩, [⟨#[112, 114, 111, 100, 117, 99, 116]⟩, ⟨#[116, 104, 105, 110, 103]⟩, ⟨#[111, 116, 104, 101, 114]⟩], 2, 1, [0, 0], 1,
  [.ret (.comp (.one 2) .range [(.bi .len [(.var 0)])] [(.call i_is_met [(.var 0), (.var 1), (.var 2)] [] 0)] (.var 2))]⟩
def p_pairs_in : Fn := ⟨⟨#[112, 97, 105, 114, 115, 95, 105, 110]⟩, [⟨#[112, 114, 111, 100, 117, 99, 116]⟩, ⟨#[116, 104, 105, 110, 103]⟩], 1, 1, [0], 0,
  [.ret (.bi .sum [(.comp (.one 1) .range [(.bi .len [(.var 0)])] [] (.bi .len [(.call i_met_by [(.var 0), (.var 1)] [] 0)]))])]⟩
def p_divisor_of : Fn := ⟨⟨#[100, 105, 118, 105, 115, 111, 114, 95, 111, 102]⟩, [⟨#[111, 110, 101]⟩, ⟨#[111, 116, 104, 101, 114]⟩], 2, 0, [0, 0], 0,
  [.whl 1000000 (.cmp .ne (.var 1) (.int 0))
    [.par [0, 1] [0, 0] [(.var 1), (.bin .mod (.var 0) (.var 1))]],
    .ret (.var 0)]⟩
def p_are_met : Fn := ⟨⟨#[97, 114, 101, 95, 109, 101, 116]⟩, [⟨#[112, 114, 111, 100, 117, 99, 116]⟩, ⟨#[108, 111, 116]⟩, ⟨#[111, 116, 104, 101, 114]⟩, ⟨#[116, 104, 105, 110, 103]⟩], 2, 2, [0, 0], 0,
  [.ret (.bi .all [(.comp (.one 3) .plain [(.var 1)] [] (.bi .all [(.comp (.one 2) .plain [(.var 1)] [] (.call i_is_met [(.var 0), (.var 3), (.var 2)] [] 0))]))])]⟩
def p_fits_meeting : Fn := ⟨⟨#[102, 105, 116, 115, 95, 109, 101, 101, 116, 105, 110, 103]⟩, [⟨#[112, 114, 111, 100, 117, 99, 116]⟩, ⟨#[118, 97, 108, 117, 101]⟩], 2, 0, [0, 0], 0,
  [.ret (.and (.call i_are_things [(.bi .len [(.var 0)]), (.var 1), (.int 1), (.bi .len [(.var 0)])] [] 0) (.and (.call i_is_rising [(.var 1)] [] 0) (.call i_are_met [(.var 0), (.var 1)] [] 0)))]⟩
def p_full_in : Fn := ⟨⟨#[102, 117, 108, 108, 95, 105, 110]⟩, [⟨#[112, 114, 111, 100, 117, 99, 116]⟩, ⟨#[108, 111, 116, 115]⟩, ⟨#[102, 111, 117, 110, 100]⟩, ⟨#[116, 104, 105, 110, 103]⟩, ⟨#[108, 111, 116]⟩, ⟨#[109, 111, 114, 101]⟩], 1, 5, [0], 1,
  [.par [1, 2] [0, 1] [(.lst [(.tup [])]), (.lst [])],
    .loop (.one 3) .range [(.bi .len [(.var 0)])]
    [.asg 1 0 (.bin .add (.var 1) (.comp (.one 4) .plain [(.var 1)] [(.call i_are_met [(.var 0), (.bin .add (.var 4) (.tup [(.var 3)]))] [] 0)] (.bin .add (.var 4) (.tup [(.var 3)]))))],
    .loop (.one 4) .plain [(.var 1)]
    [.asg 5 0 (.comp (.one 3) .range [(.bi .len [(.var 0)])] [(.and (.cmp .notin (.var 3) (.var 4)) (.call i_are_met [(.var 0), (.bin .add (.var 4) (.tup [(.var 3)]))] [] 0))] (.var 3)),
    .ite (.cmp .eq (.var 5) (.lst []))
    [.app 2 (.var 4)]
    [],
    .kill [4, 5]],
    .fz 2,
    .ret (.bi .sorted [(.var 2)])]⟩
def p_do_meet : Fn := ⟨⟨#[100, 111, 95, 109, 101, 101, 116]⟩, [⟨#[112, 114, 111, 100, 117, 99, 116]⟩, ⟨#[116, 104, 105, 110, 103]⟩, ⟨#[115, 101, 99, 111, 110, 100]⟩], 3, 0, [0, 0, 0], 0,
  [.ex (.call i_need_product [(.var 0)] [] 0),
    .ex (.call i_need_thing [(.var 0), (.var 1)] [] 0),
    .ex (.call i_need_thing [(.var 0), (.var 2)] [] 0),
    .ret (.call i_is_met [(.var 0), (.var 1), (.var 2)] [] 0)]⟩
def p_meeting_things : Fn := ⟨⟨#[109, 101, 101, 116, 105, 110, 103, 95, 116, 104, 105, 110, 103, 115]⟩, [⟨#[112, 114, 111, 100, 117, 99, 116]⟩, ⟨#[116, 104, 105, 110, 103]⟩], 2, 0, [0, 0], 0,
  [.ex (.call i_need_product [(.var 0)] [] 0),
    .ex (.call i_need_thing [(.var 0), (.var 1)] [] 0),
    .ret (.bi .tuple [(.call i_met_by [(.var 0), (.var 1)] [] 0)])]⟩
def p_count_meeting_pairs : Fn := ⟨⟨#[99, 111, 117, 110, 116, 95, 109, 101, 101, 116, 105, 110, 103, 95, 112, 97, 105, 114, 115]⟩, [⟨#[112, 114, 111, 100, 117, 99, 116]⟩], 1, 0, [0], 0,
  [.ex (.call i_need_product [(.var 0)] [] 0),
    .ret (.call i_pairs_in [(.var 0)] [] 0)]⟩
def p_meeting_share : Fn := ⟨⟨#[109, 101, 101, 116, 105, 110, 103, 95, 115, 104, 97, 114, 101]⟩, [⟨#[112, 114, 111, 100, 117, 99, 116]⟩, ⟨#[115, 111, 109, 101]⟩, ⟨#[101, 118, 101, 114, 121]⟩], 1, 2, [0], 0,
  [.ex (.call i_need_product [(.var 0)] [] 0),
    .par [1, 2] [0, 0] [(.call i_pairs_in [(.var 0)] [] 0), (.bin .mul (.bi .len [(.var 0)]) (.bi .len [(.var 0)]))],
    .ret (.tup [(.bin .fdiv (.var 1) (.call i_divisor_of [(.var 1), (.var 2)] [] 0)), (.bin .fdiv (.var 2) (.call i_divisor_of [(.var 1), (.var 2)] [] 0))])]⟩
def p_is_meeting_lot : Fn := ⟨⟨#[105, 115, 95, 109, 101, 101, 116, 105, 110, 103, 95, 108, 111, 116]⟩, [⟨#[112, 114, 111, 100, 117, 99, 116]⟩, ⟨#[118, 97, 108, 117, 101]⟩], 2, 0, [0, 0], 0,
  [.ex (.call i_need_product [(.var 0)] [] 0),
    .ret (.call i_fits_meeting [(.var 0), (.var 1)] [] 0)]⟩
def p_full_meeting_lots : Fn := ⟨⟨#[102, 117, 108, 108, 95, 109, 101, 101, 116, 105, 110, 103, 95, 108, 111, 116, 115]⟩, [⟨#[112, 114, 111, 100, 117, 99, 116]⟩], 1, 0, [0], 0,
  [.ex (.call i_need_product [(.var 0)] [] 0),
    .ret (.bi .tuple [(.call i_full_in [(.var 0)] [] 0)])]⟩
def p__law_cup : Fn := ⟨⟨#[95, 108, 97, 119, 95, 99, 117, 112]⟩, [⟨#[115, 99, 114, 105, 112, 116]⟩, ⟨#[99, 101, 108, 108]⟩], 1, 1, [3], 1,
  [.asg 1 0 (.bi .abs [(.idx (.bin .add (.bi .list [(.var 0)]) (.lst [(.int 0)])) (.int 0))]),
    .ret (.lst [(.ite (.cmp .ge (.var 1) (.bin .pow (.int 10) (.int 18))) (.bin .fdiv (.var 1) (.int 73)) (.int 0)), (.bin .add (.bin .mod (.bi .int [(.bin .add (.bin .mul (.var 1) (.int 283)) (.int 3907))]) (.int 2077503167)) (.int 167))])]⟩
def p__law_roll : Fn := ⟨⟨#[95, 108, 97, 119, 95, 114, 111, 108, 108]⟩, [⟨#[99, 117, 112]⟩, ⟨#[109, 97, 110, 121]⟩, ⟨#[102, 111, 117, 110, 100]⟩, ⟨#[100, 101, 101, 112]⟩], 2, 2, [1, 0], 0,
  [.ite (.cmp .gt (.idx (.var 0) (.int 0)) (.int 0))
    [.asg 2 0 (.bin .mod (.bi .int [(.idx (.var 0) (.int 0))]) (.var 1)),
    .sub1 0 (.int 0) (.bin .fdiv (.idx (.var 0) (.int 0)) (.var 1)),
    .ret (.var 2)]
    [],
    .sub1 0 (.int 1) (.bin .mod (.bi .int [(.bin .add (.bin .mul (.idx (.var 0) (.int 1)) (.int 31051)) (.int 7993))]) (.int 2147483543)),
    .asg 3 0 (.bin .mod (.bi .int [(.bin .mul (.idx (.var 0) (.int 1)) (.bin .add (.idx (.var 0) (.int 1)) (.int 229)))]) (.int 2147483587)),
    .ret (.bin .mod (.bi .int [(.bin .fdiv (.var 3) (.int 821))]) (.var 1))]⟩
def p__law_sort : Fn := ⟨⟨#[95, 108, 97, 119, 95, 115, 111, 114, 116]⟩, [⟨#[118, 97, 108, 117, 101]⟩], 1, 0, [0], 1,
  [.ite (.or (.cmp .is (.var 0) (.non)) (.bi (.isinst .bool) [(.var 0)]))
    [.ret (.ite (.cmp .is (.var 0) (.non)) (.int 0) (.int 1))]
    [],
    .ite (.or (.bi (.isinst .int) [(.var 0)]) (.bi (.isinst .str) [(.var 0)]))
    [.ret (.ite (.bi (.isinst .int) [(.var 0)]) (.int 2) (.int 3))]
    [],
    .ret (.ite (.bi (.isinst .tuple) [(.var 0)]) (.int 4) (.ite (.bi (.isinst .list) [(.var 0)]) (.int 5) (.int 6)))]⟩
def p__law_like : Fn := ⟨⟨#[95, 108, 97, 119, 95, 108, 105, 107, 101]⟩, [⟨#[111, 110, 101]⟩, ⟨#[111, 116, 104, 101, 114]⟩, ⟨#[115, 111, 114, 116]⟩, ⟨#[102, 105, 114, 115, 116]⟩, ⟨#[115, 101, 99, 111, 110, 100]⟩], 2, 3, [0, 0], 0,
  [.asg 2 0 (.call i__law_sort [(.var 1)] [] 0),
    .ite (.or (.cmp .ne (.call i__law_sort [(.var 0)] [] 0) (.var 2)) (.cmp .eq (.var 2) (.int 6)))
    [.ret (.bl false)]
    [],
    .ite (.cmp .isin (.var 2) (.tup [(.int 4), (.int 5)]))
    [.ret (.and (.cmp .eq (.bi .len [(.var 0)]) (.bi .len [(.var 1)])) (.cmp .eq (.comp (.tup [3, 4]) .zip [(.var 0), (.var 1)] [(.not (.call i__law_like [(.var 3), (.var 4)] [] 0))] (.int 1)) (.lst [])))]
    [],
    .ret (.cmp .eq (.var 0) (.var 1))]⟩
def p__law_some : Fn := ⟨⟨#[95, 108, 97, 119, 95, 115, 111, 109, 101]⟩, [⟨#[99, 117, 112]⟩, ⟨#[116, 104, 105, 110, 103, 115]⟩], 2, 0, [1, 0], 0,
  [.ret (.idx (.var 1) (.call i__law_roll [(.io 0), (.bi .len [(.var 1)])] [0] 0))]⟩
def p__law_product : Fn := ⟨⟨#[95, 108, 97, 119, 95, 112, 114, 111, 100, 117, 99, 116]⟩, [⟨#[99, 117, 112]⟩, ⟨#[109, 111, 115, 116]⟩, ⟨#[109, 97, 110, 121]⟩, ⟨#[119, 97, 121]⟩, ⟨#[98, 121]⟩, ⟨#[116, 111]⟩, ⟨#[102, 111, 117, 110, 100]⟩, ⟨#[111, 110, 101]⟩, ⟨#[108, 105, 110, 101]⟩, ⟨#[111, 116, 104, 101, 114]⟩, ⟨#[97, 110, 121, 95, 111, 110, 101]⟩, ⟨#[116, 111, 108, 100]⟩], 2, 10, [1, 0], 0,
  [.par [2, 3] [0, 0] [(.bin .add (.int 1) (.call i__law_roll [(.io 0), (.var 1)] [0] 0)), (.call i__law_roll [(.io 0), (.int 6)] [0] 0)],
    .par [4, 5, 6] [0, 0, 1] [(.call i__law_roll [(.io 0), (.var 2)] [0] 0), (.call i__law_roll [(.io 0), (.var 2)] [0] 0), (.lst [])],
    .loop (.one 7) .range [(.var 2)]
    [.asg 8 1 (.lst []),
    .loop (.one 9) .range [(.var 2)]
    [.asg 10 0 (.call i__law_roll [(.io 0), (.var 2)] [0] 0),
    .asg 11 0 (.lst [(.var 10), (.bin .mod (.bi .int [(.bin .add (.var 7) (.var 9))]) (.var 2)), (.bin .mod (.bi .int [(.bin .mul (.var 7) (.var 9))]) (.var 2)), (.bi .min [(.var 7), (.var 9)]), (.bin .mod (.bi .int [(.bin .add (.bin .mul (.var 4) (.var 7)) (.bin .mul (.var 5) (.var 9)))]) (.var 2)), (.var 7)]),
    .app 8 (.idx (.var 11) (.var 3)),
    .kill [9, 10, 11]],
    .fz 8,
    .app 6 (.bi .tuple [(.var 8)]),
    .kill [7, 8, 9, 10, 11]],
    .fz 6,
    .ret (.bi .tuple [(.var 6)])]⟩
def p__law_order : Fn := ⟨⟨#[95, 108, 97, 119, 95, 111, 114, 100, 101, 114]⟩, [⟨#[99, 117, 112]⟩, ⟨#[109, 97, 110, 121]⟩, ⟨#[108, 101, 102, 116]⟩, ⟨#[102, 111, 117, 110, 100]⟩], 2, 2, [1, 0], 0,
  [.par [2, 3] [1, 1] [(.bi (.rg false) [(.var 1)]), (.lst [])],
    .whl 1000000 (.cmp .ne (.var 2) (.lst []))
    [.app 3 (.popAt 2 (.call i__law_roll [(.io 0), (.bi .len [(.var 2)])] [0] 0))],
    .fz 3,
    .ret (.bi .tuple [(.var 3)])]⟩
def p__law_led : Fn := ⟨⟨#[95, 108, 97, 119, 95, 108, 101, 100]⟩, [⟨#[112, 114, 111, 100, 117, 99, 116]⟩, ⟨#[114, 111, 119]⟩, ⟨#[109, 97, 110, 121]⟩, ⟨#[102, 111, 117, 110, 100]⟩, ⟨#[116, 104, 105, 110, 103]⟩, ⟨#[111, 110, 101]⟩, ⟨#[111, 116, 104, 101, 114]⟩, ⟨#[108, 105, 110, 101]⟩], 2, 6, [0, 0], 0,
  [.asg 2 0 (.bi .len [(.var 0)]),
    .asg 3 2 (.comp (.one 4) .range [(.var 2)] [] (.bin .mul (.lst [(.int 0)]) (.var 2))),
    .loop (.one 5) .range [(.var 2)]
    [.loop (.one 6) .range [(.var 2)]
    [.sub2 3 (.idx (.var 1) (.var 5)) (.idx (.var 1) (.var 6)) (.idx (.var 1) (.idx (.idx (.var 0) (.var 5)) (.var 6))),
    .kill [6]],
    .kill [5, 6]],
    .fz 3,
    .ret (.bi .tuple [(.comp (.one 7) .plain [(.var 3)] [] (.bi .tuple [(.var 7)]))])]⟩
def p__law_lots : Fn := ⟨⟨#[95, 108, 97, 119, 95, 108, 111, 116, 115]⟩, [⟨#[116, 104, 105, 110, 103, 115]⟩, ⟨#[102, 111, 117, 110, 100]⟩, ⟨#[116, 104, 105, 110, 103]⟩, ⟨#[115, 111, 109, 101]⟩], 1, 3, [0], 0,
  [.asg 1 0 (.lst [(.tup [])]),
    .loop (.one 2) .plain [(.var 0)]
    [.asg 1 0 (.bin .add (.var 1) (.comp (.one 3) .plain [(.var 1)] [] (.bin .add (.var 3) (.tup [(.var 2)])))),
    .kill [2]],
    .ret (.var 1)]⟩
def p__law_group : Fn := ⟨⟨#[95, 108, 97, 119, 95, 103, 114, 111, 117, 112]⟩, [⟨#[99, 117, 112]⟩, ⟨#[119, 97, 121]⟩, ⟨#[102, 111, 117, 110, 100]⟩, ⟨#[115, 105, 122, 101]⟩, ⟨#[109, 111, 114, 101]⟩, ⟨#[112, 97, 105, 114, 115]⟩, ⟨#[97]⟩, ⟨#[115]⟩, ⟨#[108, 105, 110, 101]⟩, ⟨#[98]⟩, ⟨#[116]⟩, ⟨#[115, 105, 103, 110]⟩], 1, 11, [1], 0,
  [.par [1, 2] [0, 1] [(.call i__law_roll [(.io 0), (.int 8)] [0] 0), (.lst [])],
    .asgT [3, 4] (.idx (.tup [(.tup [(.bin .add (.int 1) (.call i__law_roll [(.io 0), (.int 8)] [0] 0)), (.int 0)]), (.tup [(.int 2), (.int 0)]), (.tup [(.int 2), (.int 0)]), (.tup [(.int 4), (.int 0)]), (.tup [(.int 3), (.int 0)]), (.tup [(.int 4), (.int 0)]), (.tup [(.int 4), (.int 2)]), (.tup [(.int 2), (.int 0)])]) (.var 1)),
    .ite (.cmp .eq (.var 1) (.int 0))
    [.asg 5 0 (.comp (.one 6) .range [(.var 3)] [] (.tup [(.var 6), (.int 0)]))]
    [.asg 5 0 (.bin .add (.comp (.one 6) .range [(.var 3)] [] (.tup [(.var 6), (.int 0)])) (.comp (.one 6) .range [(.var 3)] [] (.tup [(.var 6), (.int 1)])))],
    .loop (.tup [6, 7]) .plain [(.var 5)]
    [.asg 8 1 (.lst []),
    .loop (.tup [9, 10]) .plain [(.var 5)]
    [.asg 11 0 (.ite (.and (.cmp .eq (.var 7) (.int 1)) (.cmp2 .le .le (.int 4) (.var 1) (.int 6))) (.bin .sub (.int 0) (.var 9)) (.var 9)),
    .app 8 (.me .index (.var 5) [(.tup [(.bin .mod (.bi .int [(.bin .add (.bin .add (.var 6) (.var 11)) (.bin .mul (.bin .mul (.var 4) (.var 7)) (.var 10)))]) (.var 3)), (.bin .mod (.bi .int [(.bin .add (.var 7) (.var 10))]) (.int 2))])]),
    .kill [9, 10, 11]],
    .fz 8,
    .app 2 (.bi .tuple [(.var 8)]),
    .kill [6, 7, 8, 9, 10, 11]],
    .fz 2,
    .asg 2 0 (.bi .tuple [(.var 2)]),
    .fz 2,
    .ite (.cmp .isin (.var 1) (.tup [(.int 2), (.int 7)]))
    [.asg 2 0 (.call i__law_twice [(.var 2)] [] 1)]
    [],
    .ret (.call i__law_led [(.var 2), (.call i__law_order [(.io 0), (.bi .len [(.var 2)])] [0] 0)] [] 1)]⟩
def p__law_twice : Fn := ⟨⟨#[95, 108, 97, 119, 95, 116, 119, 105, 99, 101]⟩, [⟨#[103, 114, 111, 117, 112]⟩, ⟨#[109, 97, 110, 121]⟩, ⟨#[102, 111, 117, 110, 100]⟩, ⟨#[97]⟩, ⟨#[108, 105, 110, 101]⟩, ⟨#[98]⟩], 1, 5, [0], 0,
  [.asg 1 0 (.bi .len [(.var 0)]),
    .asg 2 1 (.lst []),
    .loop (.one 3) .range [(.bin .mul (.int 2) (.var 1))]
    [.asg 4 1 (.lst []),
    .loop (.one 5) .range [(.bin .mul (.int 2) (.var 1))]
    [.app 4 (.bin .add (.idx (.idx (.var 0) (.bin .mod (.bi .int [(.var 3)]) (.var 1))) (.bin .mod (.bi .int [(.var 5)]) (.var 1))) (.bin .mul (.var 1) (.bin .mod (.bi .int [(.bin .add (.bin .fdiv (.var 3) (.var 1)) (.bin .fdiv (.var 5) (.var 1)))]) (.int 2)))),
    .kill [5]],
    .fz 4,
    .app 2 (.bi .tuple [(.var 4)]),
    .kill [3, 4, 5]],
    .fz 2,
    .ret (.bi .tuple [(.var 2)])]⟩
def p__law_common : Fn := ⟨⟨#[95, 108, 97, 119, 95, 99, 111, 109, 109, 111, 110]⟩, [⟨#[111, 110, 101]⟩, ⟨#[111, 116, 104, 101, 114]⟩], 2, 0, [0, 0], 0,
  [.whl 1000000 (.cmp .ne (.var 1) (.int 0))
    [.par [0, 1] [0, 0] [(.var 1), (.bin .mod (.bi .int [(.var 0)]) (.var 1))]],
    .ret (.var 0)]⟩
def p__law_is_met : Fn := ⟨⟨#[95, 108, 97, 119, 95, 105, 115, 95, 109, 101, 116]⟩, [⟨#[112, 114, 111, 100, 117, 99, 116]⟩, ⟨#[118, 97, 108, 117, 101]⟩, ⟨#[111, 110, 101]⟩, ⟨#[111, 116, 104, 101, 114]⟩], 2, 2, [0, 0], 0,
  [.ite (.or (.not (.bi (.isinst .tuple) [(.var 1)])) (.or (.cmp .eq (.var 1) (.tup [])) (.cmp .ne (.comp (.one 2) .plain [(.var 1)] [(.or (.cmp .ne (.call i__law_sort [(.var 2)] [] 0) (.int 2)) (.not (.cmp2 .le .lt (.int 0) (.var 2) (.bi .len [(.var 0)]))))] (.var 2)) (.lst []))))
    [.ret (.bl false)]
    [],
    .ite (.cmp .ne (.bi .list [(.var 1)]) (.bi (.st false) [(.var 1)]))
    [.ret (.bl false)]
    [],
    .ret (.cmp .eq (.comp (.one 2) .plain [(.var 1)] [(.cmp .ne (.comp (.one 3) .plain [(.var 1)] [(.cmp .ne (.idx (.idx (.var 0) (.var 2)) (.var 3)) (.idx (.idx (.var 0) (.var 3)) (.var 2)))] (.var 3)) (.lst []))] (.int 1)) (.lst []))]⟩
def p__law_right : Fn := ⟨⟨#[95, 108, 97, 119, 95, 114, 105, 103, 104, 116]⟩, [⟨#[99, 117, 112]⟩, ⟨#[112, 114, 111, 100, 117, 99, 116]⟩, ⟨#[109, 97, 110, 121]⟩, ⟨#[101, 118, 101, 114, 121]⟩, ⟨#[109, 101, 116]⟩, ⟨#[111, 116, 104, 101, 114]⟩, ⟨#[116, 104, 105, 110, 103]⟩, ⟨#[112, 97, 105, 114, 115]⟩, ⟨#[115, 101, 99, 111, 110, 100]⟩, ⟨#[114, 111, 119]⟩, ⟨#[99, 111, 109, 109, 111, 110]⟩, ⟨#[116, 111, 108, 100]⟩, ⟨#[103, 111, 111, 100]⟩, ⟨#[108, 111, 116]⟩, ⟨#[102, 117, 108, 108]⟩, ⟨#[111, 110, 101]⟩, ⟨#[118, 97, 108, 117, 101, 115]⟩, ⟨#[118, 97, 108, 117, 101]⟩, ⟨#[108, 101, 100]⟩, ⟨#[111, 119, 110]⟩], 2, 18, [1, 0], 0,
  [.par [2, 3] [0, 0] [(.bi .len [(.var 1)]), (.bi (.rg false) [(.bi .len [(.var 1)])])],
    .asg 4 0 (.comp (.one 6) .plain [(.var 3)] [] (.comp (.one 5) .plain [(.var 3)] [(.cmp .eq (.idx (.idx (.var 1) (.var 6)) (.var 5)) (.idx (.idx (.var 1) (.var 5)) (.var 6)))] (.var 5))),
    .par [7, 6, 8] [0, 0, 0] [(.bi .sum [(.comp (.one 9) .plain [(.var 4)] [] (.bi .len [(.var 9)]))]), (.call i__law_roll [(.io 0), (.var 2)] [0] 0), (.call i__law_roll [(.io 0), (.var 2)] [0] 0)],
    .asg 10 0 (.call i__law_common [(.var 7), (.bin .mul (.var 2) (.var 2))] [] 0),
    .asg 11 0 (.lst [(.call i_do_meet [(.var 1), (.var 6), (.var 8)] [] 0), (.call i_meeting_things [(.var 1), (.var 6)] [] 0), (.call i_count_meeting_pairs [(.var 1)] [] 0), (.call i_meeting_share [(.var 1)] [] 0)]),
    .ite (.not (.call i__law_like [(.var 11), (.lst [(.cmp .isin (.var 8) (.idx (.var 4) (.var 6))), (.bi .tuple [(.idx (.var 4) (.var 6))]), (.var 7), (.tup [(.bi .int [(.bin .fdiv (.var 7) (.var 10))]), (.bi .int [(.bin .fdiv (.bin .mul (.var 2) (.var 2)) (.var 10))])])])] [] 0))
    [.ret (.bl false)]
    [],
    .asg 12 0 (.comp (.one 13) .plain [(.call i__law_lots [(.var 3)] [] 0)] [(.call i__law_is_met [(.var 1), (.var 13)] [] 0)] (.var 13)),
    .asg 14 0 (.comp (.one 13) .plain [(.var 12)] [(.cmp .eq (.comp (.one 15) .plain [(.var 3)] [(.and (.cmp .notin (.var 15) (.var 13)) (.cmp .eq (.comp (.one 5) .plain [(.var 13)] [(.cmp .notin (.var 5) (.idx (.var 4) (.var 15)))] (.var 5)) (.lst [])))] (.var 15)) (.lst []))] (.var 13)),
    .ite (.not (.call i__law_like [(.call i_full_meeting_lots [(.var 1)] [] 0), (.bi .tuple [(.bi .sorted [(.var 14)])])] [] 0))
    [.ret (.bl false)]
    [],
    .asg 13 0 (.call i__law_some [(.io 0), (.var 12)] [0] 0),
    .asg 16 0 (.lst [(.var 13), (.rv (.var 13)), (.bi .list [(.var 13)]), (.slc (.var 13) [(.int 1)] []), (.bin .add (.var 13) (.slc (.var 13) [(.neg (.int 1))] [])), (.bin .add (.var 13) (.tup [(.var 2)])), (.tup []), (.non), (.int 0), (.tup [(.bl true)]), (.tup [(.str ⟨#[48]⟩)]), (.tup [(.neg (.int 1))]), (.bi .tuple [(.var 3)])]),
    .asg 16 0 (.bin .add (.var 16) (.lst [(.bi .tuple [(.idx (.var 4) (.var 6))]), (.call i__law_some [(.io 0), (.call i__law_lots [(.var 3)] [] 0)] [0] 0), (.tup [(.var 6), (.var 8)]), (.tup [(.var 8), (.var 6)])])),
    .ite (.cmp .ne (.comp (.one 17) .plain [(.var 16)] [(.not (.call i__law_like [(.call i_is_meeting_lot [(.var 1), (.var 17)] [] 0), (.call i__law_is_met [(.var 1), (.var 17)] [] 0)] [] 0))] (.var 17)) (.lst []))
    [.ret (.bl false)]
    [],
    .asg 18 0 (.call i_led_product [(.var 1), (.call i__law_order [(.io 0), (.var 2)] [0] 0)] [] 0),
    .asg 11 0 (.lst [(.call i_full_meeting_lots [(.call i_turned_product [(.var 1)] [] 0)] [] 0), (.call i_count_meeting_pairs [(.var 18)] [] 0), (.bi .sorted [(.comp (.one 19) .plain [(.call i_full_meeting_lots [(.var 18)] [] 0)] [] (.bi .len [(.var 19)]))])]),
    .ret (.call i__law_like [(.var 11), (.lst [(.bi .tuple [(.bi .sorted [(.var 14)])]), (.var 7), (.bi .sorted [(.comp (.one 19) .plain [(.var 14)] [] (.bi .len [(.var 19)]))])])] [] 0)]⟩
def p_law : Fn := ⟨⟨#[108, 97, 119]⟩, [⟨#[115, 99, 114, 105, 112, 116]⟩, ⟨#[99, 117, 112]⟩, ⟨#[115, 111, 109, 101]⟩, ⟨#[108, 101, 102, 116]⟩, ⟨#[116, 111, 108, 100]⟩, ⟨#[109, 111, 115, 116]⟩, ⟨#[103, 114, 111, 117, 112]⟩, ⟨#[97, 98, 111, 118, 101]⟩, ⟨#[98, 101, 108, 111, 119]⟩, ⟨#[109, 97, 110, 121]⟩, ⟨#[108, 101, 102, 116, 115]⟩, ⟨#[116, 104, 105, 110, 103]⟩, ⟨#[114, 101, 115, 116, 115]⟩, ⟨#[111, 116, 104, 101, 114]⟩, ⟨#[111, 110, 101]⟩], 1, 14, [3], 0,
  [.asg 1 1 (.call i__law_cup [(.io 0)] [0] 0),
    .asg 2 0 (.tup [(.tup [(.int 0), (.int 1), (.int 2), (.int 3), (.int 4), (.int 5)]), (.tup [(.int 1), (.int 2), (.int 0), (.int 4), (.int 5), (.int 3)]), (.tup [(.int 2), (.int 0), (.int 1), (.int 5), (.int 3), (.int 4)]), (.tup [(.int 3), (.int 5), (.int 4), (.int 0), (.int 2), (.int 1)]), (.tup [(.int 4), (.int 3), (.int 5), (.int 1), (.int 0), (.int 2)]), (.tup [(.int 5), (.int 4), (.int 3), (.int 2), (.int 1), (.int 0)])]),
    .asg 3 0 (.tup [(.tup [(.int 0), (.int 0)]), (.tup [(.int 1), (.int 1)])]),
    .asg 4 0 (.lst [(.call i_do_meet [(.var 2), (.int 1), (.int 2)] [] 0), (.call i_do_meet [(.var 2), (.int 1), (.int 3)] [] 0), (.call i_meeting_things [(.var 2), (.int 3)] [] 0), (.call i_count_meeting_pairs [(.var 2)] [] 0), (.call i_meeting_share [(.var 2)] [] 0), (.call i_meeting_share [(.var 3)] [] 0)]),
    .ite (.not (.call i__law_like [(.bin .add (.var 4) (.lst [(.call i_meeting_share [(.tup [(.tup [(.int 0)])])] [] 0)])), (.lst [(.bl true), (.bl false), (.tup [(.int 0), (.int 3)]), (.int 18), (.tup [(.int 1), (.int 2)]), (.tup [(.int 1), (.int 2)]), (.tup [(.int 1), (.int 1)])])] [] 0))
    [.ret (.bl false)]
    [],
    .asg 4 0 (.lst [(.call i_is_meeting_lot [(.var 2), (.tup [(.int 0), (.int 3)])] [] 0), (.call i_is_meeting_lot [(.var 2), (.tup [(.int 3), (.int 4)])] [] 0), (.call i_is_meeting_lot [(.var 2), (.tup [])] [] 0), (.call i_full_meeting_lots [(.var 2)] [] 0), (.call i_full_meeting_lots [(.var 3)] [] 0)]),
    .ite (.not (.call i__law_like [(.var 4), (.lst [(.bl true), (.bl false), (.bl false), (.tup [(.tup [(.int 0), (.int 1), (.int 2)]), (.tup [(.int 0), (.int 3)]), (.tup [(.int 0), (.int 4)]), (.tup [(.int 0), (.int 5)])]), (.tup [(.tup [(.int 0)]), (.tup [(.int 1)])])])] [] 0))
    [.ret (.bl false)]
    [],
    .loop (.one 5) .plain [(.tup [(.int 3), (.int 5), (.int 6)])]
    [.ite (.not (.call i__law_right [(.io 1), (.call i__law_product [(.io 1), (.var 5)] [1] 0)] [1] 0))
    [.ret (.bl false)]
    [],
    .kill [5]],
    .asg 6 0 (.call i__law_group [(.io 1)] [1] 0),
    .ite (.or (.not (.call i__law_right [(.io 1), (.var 6)] [1] 0)) (.not (.call i__law_right [(.io 1), (.call i__law_product [(.io 1), (.int 8)] [1] 0)] [1] 0)))
    [.ret (.bl false)]
    [],
    .asgT [7, 8] (.call i_meeting_share [(.var 6)] [] 0),
    .ite (.and (.cmp .ne (.tup [(.var 7), (.var 8)]) (.tup [(.int 1), (.int 1)])) (.cmp .gt (.bin .mul (.int 8) (.var 7)) (.bin .mul (.int 5) (.var 8))))
    [.ret (.bl false)]
    [],
    .asg 9 0 (.bin .add (.int 1) (.call i__law_roll [(.io 1), (.int 8)] [1] 0)),
    .asg 10 0 (.bi .tuple [(.comp (.one 11) .range [(.var 9)] [] (.bin .mul (.tup [(.var 11)]) (.var 9)))]),
    .asg 12 0 (.bi .tuple [(.comp (.one 14) .range [(.var 9)] [] (.bi .tuple [(.comp (.one 13) .range [(.var 9)] [] (.bin .mod (.bi .int [(.bin .mul (.var 14) (.var 13))]) (.var 9)))]))]),
    .asg 4 0 (.lst [(.call i_meeting_share [(.var 10)] [] 0), (.call i_full_meeting_lots [(.var 10)] [] 0), (.call i_meeting_share [(.var 12)] [] 0), (.call i_full_meeting_lots [(.var 12)] [] 0), (.call i_is_meeting_lot [(.var 12), (.bi (.rg true) [(.var 9)])] [] 0)]),
    .ret (.call i__law_like [(.var 4), (.lst [(.tup [(.int 1), (.var 9)]), (.bi .tuple [(.comp (.one 11) .range [(.var 9)] [] (.tup [(.var 11)]))]), (.tup [(.int 1), (.int 1)]), (.tup [(.bi (.rg true) [(.var 9)])]), (.bl true)])] [] 0)]⟩
def p : List Fn := ([p_is_integer, p_is_whole, p_is_tuple_of, p_is_rising, p_are_things, p_fits_product, p_need_product, p_need_thing, p_led_in, p_fits_row, p_turned_product, p_led_product, p_is_met, p_met_by, p_pairs_in, p_divisor_of, p_are_met, p_fits_meeting, p_full_in, p_do_meet] : List Fn) ++ ([p_meeting_things, p_count_meeting_pairs, p_meeting_share, p_is_meeting_lot, p_full_meeting_lots, p__law_cup, p__law_roll, p__law_sort, p__law_like, p__law_some, p__law_product, p__law_order, p__law_led, p__law_lots, p__law_group, p__law_twice, p__law_common, p__law_is_met, p__law_right, p_law] : List Fn)
theorem fn_is_integer : fnAt p i_is_integer = some p_is_integer := rfl
theorem fn_is_whole : fnAt p i_is_whole = some p_is_whole := rfl
theorem fn_is_tuple_of : fnAt p i_is_tuple_of = some p_is_tuple_of := rfl
theorem fn_is_rising : fnAt p i_is_rising = some p_is_rising := rfl
theorem fn_are_things : fnAt p i_are_things = some p_are_things := rfl
theorem fn_fits_product : fnAt p i_fits_product = some p_fits_product := rfl
theorem fn_need_product : fnAt p i_need_product = some p_need_product := rfl
theorem fn_need_thing : fnAt p i_need_thing = some p_need_thing := rfl
theorem fn_led_in : fnAt p i_led_in = some p_led_in := rfl
theorem fn_fits_row : fnAt p i_fits_row = some p_fits_row := rfl
theorem fn_turned_product : fnAt p i_turned_product = some p_turned_product := rfl
theorem fn_led_product : fnAt p i_led_product = some p_led_product := rfl
theorem fn_is_met : fnAt p i_is_met = some p_is_met := rfl
theorem fn_met_by : fnAt p i_met_by = some p_met_by := rfl
theorem fn_pairs_in : fnAt p i_pairs_in = some p_pairs_in := rfl
theorem fn_divisor_of : fnAt p i_divisor_of = some p_divisor_of := rfl
theorem fn_are_met : fnAt p i_are_met = some p_are_met := rfl
theorem fn_fits_meeting : fnAt p i_fits_meeting = some p_fits_meeting := rfl
theorem fn_full_in : fnAt p i_full_in = some p_full_in := rfl
theorem fn_do_meet : fnAt p i_do_meet = some p_do_meet := rfl
theorem fn_meeting_things : fnAt p i_meeting_things = some p_meeting_things := rfl
theorem fn_count_meeting_pairs : fnAt p i_count_meeting_pairs = some p_count_meeting_pairs := rfl
theorem fn_meeting_share : fnAt p i_meeting_share = some p_meeting_share := rfl
theorem fn_is_meeting_lot : fnAt p i_is_meeting_lot = some p_is_meeting_lot := rfl
theorem fn_full_meeting_lots : fnAt p i_full_meeting_lots = some p_full_meeting_lots := rfl
theorem fn__law_cup : fnAt p i__law_cup = some p__law_cup := rfl
theorem fn__law_roll : fnAt p i__law_roll = some p__law_roll := rfl
theorem fn__law_sort : fnAt p i__law_sort = some p__law_sort := rfl
theorem fn__law_like : fnAt p i__law_like = some p__law_like := rfl
theorem fn__law_some : fnAt p i__law_some = some p__law_some := rfl
theorem fn__law_product : fnAt p i__law_product = some p__law_product := rfl
theorem fn__law_order : fnAt p i__law_order = some p__law_order := rfl
theorem fn__law_led : fnAt p i__law_led = some p__law_led := rfl
theorem fn__law_lots : fnAt p i__law_lots = some p__law_lots := rfl
theorem fn__law_group : fnAt p i__law_group = some p__law_group := rfl
theorem fn__law_twice : fnAt p i__law_twice = some p__law_twice := rfl
theorem fn__law_common : fnAt p i__law_common = some p__law_common := rfl
theorem fn__law_is_met : fnAt p i__law_is_met = some p__law_is_met := rfl
theorem fn__law_right : fnAt p i__law_right = some p__law_right := rfl
theorem fn_law : fnAt p i_law = some p_law := rfl
def cst_p : List (Str × Val) := ([(⟨#[77, 79, 83, 84]⟩, (.int 8))] : List (Str × Val))
def blt_p : List Str := [⟨#[97, 98, 115]⟩, ⟨#[97, 108, 108]⟩, ⟨#[98, 111, 111, 108]⟩, ⟨#[105, 110, 116]⟩, ⟨#[105, 115, 105, 110, 115, 116, 97, 110, 99, 101]⟩, ⟨#[108, 101, 110]⟩, ⟨#[108, 105, 115, 116]⟩, ⟨#[109, 105, 110]⟩, ⟨#[114, 97, 110, 103, 101]⟩, ⟨#[115, 101, 116]⟩, ⟨#[115, 111, 114, 116, 101, 100]⟩, ⟨#[115, 116, 114]⟩, ⟨#[115, 117, 109]⟩, ⟨#[116, 117, 112, 108, 101]⟩, ⟨#[122, 105, 112]⟩]
def T_p : Tab := ⟨p, cst_p, blt_p⟩
end
end Mp
set_option Elab.async false
set_option linter.all false
set_option maxRecDepth 100000
set_option maxHeartbeats 0

namespace Mp

open PySem

theorem sp_integer (n : Nat) (v : Val) (h : isDat v = true) : callF p (n + 1) i_is_integer [v] = .ok (.bl (isI v)) [] := by
  rw [callF_succ, fn_is_integer]
  cases v <;> first | (cases h; done) | rfl
theorem sp_whole (n : Nat) (v : Val) (lo hi : Int) (h : isDat v = true) : callF p (n + 2) i_is_whole [v, .int lo, .int hi] = .ok (.bl (isW v lo hi)) [] := by
  rw [callF_succ, fn_is_whole]
  cases v with
  | int i => 
    simp [runFn, p_is_whole, sp_integer, isI, isW, condB_some]
    cases h : decide (lo ≤ i) <;> simp [h]
  | _ => first | (cases h; done) | (simp [runFn, p_is_whole, sp_integer, isI, isW])
theorem sp_tuple_of (n : Nat) (v : Val) (lo hi : Int) (h : isDat v = true) : callF p (n + 1) i_is_tuple_of [v, .int lo, .int hi] = .ok (.bl (isT v lo hi)) [] := by
  rw [callF_succ, fn_is_tuple_of]
  cases v with
  | tup xs => 
    simp [runFn, p_is_tuple_of, isT, condB_some]
    cases h : decide (lo ≤ xs.length) <;> simp [h]
  | _ => first | (cases h; done) | (simp [runFn, p_is_tuple_of, isT])
theorem isT_tup {v : Val} {lo hi : Int} (h : isT v lo hi = true) : ∃ xs, v = .tup xs ∧ lo ≤ xs.length ∧ xs.length ≤ hi := by
  cases v <;> first | (cases h; done) | skip
  unfold isT at h
  simp only [Bool.and_eq_true, decide_eq_true_eq] at h
  exact ⟨_, rfl, h.1, h.2⟩
theorem lim_le {n : Nat} (h : n ≤ 100000) : Nat.ble n LIM = true := Nat.ble_eq_true_of_le (Nat.le_trans h (by decide))
theorem bifn_all2 (f : Val → Bool) (xs : List Val) : bifn .all [.lst (xs.map fun x => .bl (f x))] = some (.bl (xs.all f)) := by
  have h := bifn_all (xs.map f)
  rw [List.map_map] at h
  rw [show (xs.map fun x => Val.bl (f x)) = xs.map (Val.bl ∘ f) from rfl, h, List.all_map]
  rfl
theorem sp_are_things (n m : Nat) (many lo hi : Int) (v : Val) (h : dat m v = true) (hh : hi ≤ 100000) : callF p (n + 3) i_are_things [.int many, v, .int lo, .int hi] = .ok (.bl (areTh many v lo hi)) [] := by
  rw [callF_succ, fn_are_things]
  have hd := dat_isDat h
  simp [runFn, p_are_things, sp_tuple_of, undefd_of hd, hd]
  cases ht : isT v lo hi with
  | false => simp [areTh, ht]
  | true =>
    obtain ⟨xs, rfl, h1, h2⟩ := isT_tup ht
    have hx := (dat_tup.mp h).2
    simp [lim_le (show xs.length ≤ 100000 by omega)]
    rw [comp_all (fun x => .bl (isW x 0 (many - 1))) xs fun x hx' => ?_]
    · simp [bifn_all2, areTh, ht, parts]
    · have hxd := dat_isDat (hx x hx')
      refine ⟨_, rfl, rfl, ?_⟩
      simp [sp_whole, hxd, undefd_of hxd]
theorem dat_mem {m : Nat} {xs : List Val} (h : dat m (.tup xs) = true) {x : Val} (hx : x ∈ xs) : dat m x = true := (dat_tup.mp h).2 x hx
theorem sp_fits_product (n m : Nat) (v : Val) (h : dat m v = true) : callF p (n + 4) i_fits_product [v] = .ok (.bl (isPr v)) [] := by
  rw [callF_succ, fn_fits_product]
  have hd := dat_isDat h
  simp [runFn, p_fits_product, sp_tuple_of, undefd_of hd, hd]
  cases ht : isT v 1 8 with
  | false => simp [isPr, ht]
  | true =>
    obtain ⟨xs, rfl, h1, h2⟩ := isT_tup ht
    simp [lim_le (show xs.length ≤ 100000 by omega)]
    rw [comp_all (fun x => .bl (areTh xs.length x xs.length xs.length)) xs fun x hx' => ?_]
    · simp [bifn_all2, isPr, ht, parts]
    · have hxd := dat_isDat (dat_mem h hx')
      refine ⟨_, rfl, rfl, ?_⟩
      simp [sp_are_things n m _ _ _ _ (dat_mem h hx') (show (xs.length : Int) ≤ 100000 by omega), hxd, undefd_of hxd]
theorem sp_need_product (n m : Nat) (v : Val) (h : dat m v = true) (hp : isPr v = true) : callF p (n + 5) i_need_product [v] = .ok .non [] := by
  rw [callF_succ, fn_need_product]
  have hd := dat_isDat h
  simp [runFn, p_need_product, sp_fits_product n m v h, undefd_of hd, hd, hp]
theorem sp_need_thing (n : Nat) (xs : List Val) (i : Int) (h : 0 ≤ i ∧ i < xs.length) : callF p (n + 3) i_need_thing [.tup xs, .int i] = .ok .non [] := by
  rw [callF_succ, fn_need_thing]
  have e : isW (.int i) 0 (xs.length - 1) = true := by
    unfold isW
    simp only [Bool.and_eq_true, decide_eq_true_eq]
    omega
  simp [runFn, p_need_thing, sp_whole, e]
/-! ### the prelude -/

theorem sp_sort (n : Nat) (v : Val) (h : isDat v = true) : callF p (n + 1) i__law_sort [v] = .ok (.int (sortV v)) [] := by
  rw [callF_succ, fn__law_sort]
  cases v <;> first | (cases h; done) | rfl
theorem sp_roll (n : Nat) (c : Val) (m : Int) (hc : Cup c) (h1 : 1 ≤ m) (h2 : m < 9223372036854775808) : ∃ r c', callF p (n + 1) i__law_roll [c, .int m] = .ok (.int r) [c'] ∧ (0 ≤ r ∧ r < m) ∧ Cup c' := by
  obtain ⟨a, b, rfl, ha, hb, hb2⟩ := hc
  have hmm : ∀ x : Int, bMod (.int x) (.int m) = some (.int (x % m)) := fun x => bMod_int _ _ (by omega)
  have hdm : ∀ x : Int, bDiv (.int x) (.int m) = some (.int (x / m)) := fun x => bDiv_int _ _ (by omega) (by omega)
  have hm1 : ∀ x y : Int, 0 < y → bMod (.int x) (.int y) = some (.int (x % y)) := fun x y => bMod_int x y
  have hm2 : ∀ x : Int, bMul (.int b) (.int x) = some (.int (b * x)) := fun x => bMul_int _ _ (.inl (small_of (by omega) (by omega)))
  have i0 : ∀ x y : Int, L2.atI [Val.int x, Val.int y] 0 = some (.int x) := fun x y => rfl
  have i1 : ∀ x y : Int, L2.atI [Val.int x, Val.int y] 1 = some (.int y) := fun x y => rfl
  have s0 : ∀ x y z : Int, setV (.lst [.int x, .int y]) 0 (.int z) = some (.lst [.int z, .int y]) := fun x y z => rfl
  have s1 : ∀ x y z : Int, setV (.lst [.int x, .int y]) 1 (.int z) = some (.lst [.int x, .int z]) := fun x y z => rfl
  rw [callF_succ, fn__law_roll]
  by_cases hp : 0 < a
  · refine ⟨a % m, .lst [.int (a / m), .int b], ?_, ⟨Int.emod_nonneg _ (by omega), Int.emod_lt_of_pos _ (by omega)⟩, a / m, b, rfl, Int.ediv_nonneg ha (by omega), hb, hb2⟩
    simp [runFn, p__law_roll, i0, i1, s0, hp, hmm, hdm]
  · have hp' : decide (0 < a) = false := decide_eq_false hp
    let b' : Int := (b * 31051 + 7993) % 2147483543
    have hb0 : 0 ≤ b' := Int.emod_nonneg _ (by omega)
    have hb1 : b' < 2147483543 := Int.emod_lt_of_pos _ (by omega)
    have hm3 : ∀ x : Int, bMul (.int b') (.int x) = some (.int (b' * x)) := fun x => bMul_int _ _ (.inl (small_of (by omega) (by omega)))
    refine ⟨(b' * (b' + 229)) % 2147483587 / 821 % m, .lst [.int a, .int b'], ?_, ⟨Int.emod_nonneg _ (by omega), Int.emod_lt_of_pos _ (by omega)⟩, a, b', rfl, ha, hb0, by omega⟩
    have hd1 : ∀ x : Int, bDiv (.int x) (.int 821) = some (.int (x / 821)) := fun x => bDiv_int _ _ (by omega) (by omega)
    have eb : (b * 31051 + 7993) % 2147483543 = b' := rfl
    simp [runFn, p__law_roll, i0, i1, s0, s1, hp', hm2, hd1, hmm, hm1, eb, hm3]
theorem sp_some (n : Nat) (c : Val) (xs : List Val) (hc : Cup c) (h1 : 1 ≤ xs.length) (h2 : xs.length ≤ 100000) : ∃ v c', callF p (n + 2) i__law_some [c, .lst xs] = .ok v [c'] ∧ v ∈ xs ∧ Cup c' := by
  obtain ⟨r, c', e, hr, hc'⟩ := sp_roll n c xs.length hc (by omega) (by omega)
  obtain ⟨v, ev, hv, _⟩ := atI_some2 (xs := xs) hr.1 hr.2
  refine ⟨v, c', ?_, hv, hc'⟩
  rw [callF_succ, fn__law_some]
  simp [runFn, p__law_some, undefd_of hc.dat, e, ev]
end Mp
namespace Mp

open PySem

theorem in45 (s : Int) : isIn (.int s) (.tup [.int 4, .int 5]) = some (4 == s || (5 == s || false)) := by
  rw [isIn_tup _ _ (id rfl) (.inr (Nat.zero_le _))]
  rfl
theorem sp_like (m : Nat) (hm : m ≤ 100000) : ∀ (d n : Nat) (v : Val), dat m v = true → dep v ≤ d → callF p (n + d + 2) i__law_like [v, v] = .ok (.bl true) []
  | d, n, .non, _, _ => by
    rw [callF_succ, fn__law_like]
    simp [runFn, p__law_like, sp_sort, sortV, in45]
  | d, n, .bl b, _, _ => by
    rw [callF_succ, fn__law_like]
    simp [runFn, p__law_like, sp_sort, sortV, in45]
  | d, n, .int b, _, _ => by
    rw [callF_succ, fn__law_like]
    simp [runFn, p__law_like, sp_sort, sortV, in45]
  | d, n, .str b, _, _ => by
    rw [callF_succ, fn__law_like]
    simp [runFn, p__law_like, sp_sort, sortV, in45]
  | 0, n, .tup xs, _, hd => by unfold dep at hd; omega
  | 0, n, .lst xs, _, hd => by unfold dep at hd; omega
  | d + 1, n, .tup xs, h, hd => by
    rw [callF_succ, fn__law_like]
    have hl := (dat_tup.mp h).1
    have hd' : deps xs ≤ d := by rw [dep] at hd; omega
    simp [runFn, p__law_like, sp_sort, sortV, in45, lim_le (show (zipV xs xs).length ≤ 100000 by rw [zipV_len2]; omega)]
    rw [comp_map (fun _ => false) (fun x => x) _ fun x hx => ?_]
    · simp
    · obtain ⟨a, ha, rfl⟩ := zipV_self xs x hx
      have had := (dat_tup.mp h).2 a ha
      have ih := sp_like m hm d n a had (dep_mem hd' ha)
      rw [show n + d + 2 = n + (d + 1) + 1 by omega] at ih
      refine ⟨_, rfl, rfl, ?_⟩
      simp [undefd_of (dat_isDat had), ih]
  | d + 1, n, .lst xs, h, hd => by
    rw [callF_succ, fn__law_like]
    have hl := (dat_lst.mp h).1
    have hd' : deps xs ≤ d := by rw [dep] at hd; omega
    simp [runFn, p__law_like, sp_sort, sortV, in45, lim_le (show (zipV xs xs).length ≤ 100000 by rw [zipV_len2]; omega)]
    rw [comp_map (fun _ => false) (fun x => x) _ fun x hx => ?_]
    · simp
    · obtain ⟨a, ha, rfl⟩ := zipV_self xs x hx
      have had := (dat_lst.mp h).2 a ha
      have ih := sp_like m hm d n a had (dep_mem hd' ha)
      rw [show n + d + 2 = n + (d + 1) + 1 by omega] at ih
      refine ⟨_, rfl, rfl, ?_⟩
      simp [undefd_of (dat_isDat had), ih]
  | _, _, .undef, h, _ => by unfold dat at h; cases h
  | _, _, .dct _ _, h, _ => by unfold dat at h; cases h
  | _, _, .opq _ _, h, _ => by unfold dat at h; cases h
end Mp
namespace Mp

open PySem

theorem Below.snoc {n : Int} {l : List Int} {x : Int} (h : Below n l) (h2 : 0 ≤ x ∧ x < n) : Below n (l ++ [x]) := by
  intro y hy
  rcases List.mem_append.mp hy with q | q
  · exact h y q
  · rw [List.mem_singleton.mp q]; exact h2
theorem emod_in (x : Int) {n : Int} (h : 0 < n) : 0 ≤ x % n ∧ x % n < n := ⟨Int.emod_nonneg _ (by omega), Int.emod_lt_of_pos _ h⟩
theorem sp_product (n : Nat) (c : Val) (most : Int) (hc : Cup c) (h1 : 1 ≤ most) (h2 : most ≤ 8) : ∃ rows c', callF p (n + 2) i__law_product [c, .int most] = .ok (prV rows) [c'] ∧ (Prd rows ∧ rows.length ≤ most) ∧ Cup c' := by
  obtain ⟨r1, c1, e1, hr1, hc1⟩ := sp_roll n c most hc (by omega) (by omega)
  obtain ⟨r2, c2, e2, hr2, hc2⟩ := sp_roll n c1 6 hc1 (by omega) (by omega)
  obtain ⟨r3, c3, e3, hr3, hc3⟩ := sp_roll n c2 (1 + r1) hc2 (by omega) (by omega)
  obtain ⟨r4, c4, e4, hr4, hc4⟩ := sp_roll n c3 (1 + r1) hc3 (by omega) (by omega)
  have hM : ∃ M : Nat, 1 + r1 = (M : Int) ∧ 1 ≤ M ∧ M ≤ 8 ∧ (M : Int) ≤ most := ⟨(1 + r1).toNat, by omega, by omega, by omega, by omega⟩
  obtain ⟨M, eM, hM1, hM8, hMm⟩ := hM
  rw [eM] at e3 e4 hr3 hr4
  have hrange : items .range [.int (M : Int)] = some (upFrom 0 M) := by
    rw [items_range1 _ (by omega) (by have : LIM = 16000000 := rfl; omega)]
    simp
  rw [callF_succ, fn__law_product]
  suffices h : ∃ v outs, endO [1, 0] (exs (callF p (n + 1)) p__law_product.body [c, .int most, .undef, .undef, .undef, .undef, .undef, .undef, .undef, .undef, .undef, .undef]) = .ok v outs ∧ ∃ rows c', v = prV rows ∧ outs = [c'] ∧ (Prd rows ∧ rows.length ≤ most) ∧ Cup c' by
    obtain ⟨v, outs, h, rows, c', rfl, rfl, hp, hc'⟩ := h
    exact ⟨rows, c', h, hp, hc'⟩
  refine call_wp ?_
  simp -implicitDefEqProofs [p__law_product, undefd_of hc.dat, undefd_of hc1.dat, undefd_of hc2.dat, undefd_of hc3.dat, e1, e2, e3, e4, eM, hrange]
  refine WpO_seq ?_
  refine wp_range (fun i e => ∃ rows c, e = [c, .int most, .int M, .int r2, .int r3, .int r4, .lst (rows.map rowV), .undef, .undef, .undef, .undef, .undef] ∧ rows.length = i ∧ (∀ l, l ∈ rows → l.length = M ∧ Below M l) ∧ Cup c) ?_ ?_ ⟨[], c4, rfl, rfl, fun _ z => (nomatch z), hc4⟩
  · rintro e ⟨rows, c5, rfl, hl, hb, hc5⟩
    simp
    refine ⟨rows, rfl, ⟨⟨by omega, by omega, fun l h => by rw [(hb l h).1, hl], fun l h x hx => by rw [hl]; exact (hb l h).2 x hx⟩, by omega⟩, hc5⟩
  · rintro i e hi ⟨rows, c5, rfl, hl, hb, hc5⟩
    refine ⟨_, rfl, ?_⟩
    simp -implicitDefEqProofs [hrange]
    refine WpO_seq ?_
    refine wp_range (fun j e => ∃ row c, e = [c, .int most, .int M, .int r2, .int r3, .int r4, .lst (rows.map rowV), .int i, .lst (row.map .int), .undef, .undef, .undef] ∧ row.length = j ∧ Below M row ∧ Cup c) ?_ ?_ ⟨[], c5, rfl, rfl, fun _ z => (nomatch z), hc5⟩
    · rintro e ⟨row, c6, rfl, hl2, hb2, hc6⟩
      rw [show (List.map Val.int row) = List.map Val.int row from rfl]
      simp -implicitDefEqProofs [appV_lst _ _ (show (rows.map rowV).length ≤ LIM by rw [List.length_map]; have : LIM = 16000000 := rfl; omega)]
      refine ⟨rows ++ [row], c6, ⟨rfl, by simp -implicitDefEqProofs [rowV]⟩, by simp [hl], fun l h => ?_, hc6⟩
      rcases List.mem_append.mp h with q | q
      · exact hb l q
      · rw [List.mem_singleton.mp q]; exact ⟨hl2, hb2⟩
    · rintro j e hj ⟨row, c6, rfl, hl2, hb2, hc6⟩
      refine ⟨_, rfl, ?_⟩
      obtain ⟨r5, c7, e5, hr5, hc7⟩ := sp_roll n c6 M hc6 (by omega) (by omega)
      have m1 : bMul (.int i) (.int j) = some (.int (i * j)) := bMul_int _ _ (.inl (small_of (by omega) (by omega)))
      have m2 : bMul (.int r3) (.int i) = some (.int (r3 * i)) := bMul_int _ _ (.inl (small_of (by omega) (by omega)))
      have m3 : bMul (.int r4) (.int j) = some (.int (r4 * j)) := bMul_int _ _ (.inl (small_of (by omega) (by omega)))
      have m4 : ∀ x : Int, bMod (.int x) (.int M) = some (.int (x % M)) := fun x => bMod_int _ _ (by omega)
      have hat : ∃ v : Int, L2.atI [Val.int r5, Val.int ((↑i + ↑j) % ↑M), Val.int (↑i * ↑j % ↑M), Val.int (if j < i then ↑j else ↑i),
              Val.int ((r3 * ↑i + r4 * ↑j) % ↑M), Val.int ↑i] r2 = some (.int v) ∧ 0 ≤ v ∧ v < M := by
        obtain ⟨v, ev, hv, _⟩ := atI_some2 (xs := [Val.int r5, Val.int ((↑i + ↑j) % ↑M), Val.int (↑i * ↑j % ↑M), Val.int (if j < i then ↑j else ↑i),
              Val.int ((r3 * ↑i + r4 * ↑j) % ↑M), Val.int ↑i]) hr2.1 hr2.2
        have hM0 : (0 : Int) < M := by omega
        simp only [List.mem_cons, List.not_mem_nil, or_false] at hv
        rcases hv with e | e | e | e | e | e
        · exact ⟨_, by rw [ev, e], hr5⟩
        · exact ⟨_, by rw [ev, e], emod_in _ hM0⟩
        · exact ⟨_, by rw [ev, e], emod_in _ hM0⟩
        · refine ⟨_, by rw [ev, e], ?_⟩
          split <;> omega
        · exact ⟨_, by rw [ev, e], emod_in _ hM0⟩
        · exact ⟨_, by rw [ev, e], by omega⟩
      obtain ⟨v, ev, hv⟩ := hat
      simp -implicitDefEqProofs [undefd_of hc6.dat, e5, m1, m2, m3, m4, ev, appV_lst _ _ (show (row.map Val.int).length ≤ LIM by rw [List.length_map]; have : LIM = 16000000 := rfl; omega)]
      exact ⟨row ++ [v], c7, ⟨rfl, by simp⟩, by simp -implicitDefEqProofs [hl2], hb2.snoc hv, hc7⟩
end Mp
namespace Mp

open PySem

def tsum : List Tm → Nat
  | [] => 0
  | t :: ts => t.cnt + tsum ts
theorem tsum_app : ∀ a b : List Tm, tsum (a ++ b) = tsum a + tsum b
  | [], b => by simp [tsum]
  | t :: a, b => by
    show t.cnt + tsum (a ++ b) = t.cnt + tsum a + tsum b
    rw [tsum_app a b]
    omega
theorem tsum_len : ∀ a : List Tm, a.length ≤ tsum a
  | [] => Nat.le_refl _
  | t :: a => by
    have := tsum_len a
    have := t.cnt_pos
    show a.length + 1 ≤ t.cnt + tsum a
    omega
theorem vals_tms : ∀ ys : List Val, (∀ y, y ∈ ys → ∃ t : Tm, y = t.val ∧ t.cnt = 1) → ∃ ts : List Tm, ys = ts.map Tm.val ∧ tsum ts = ys.length
  | [], _ => ⟨[], rfl, rfl⟩
  | y :: ys, h => by
    obtain ⟨t, e, h1⟩ := h y (by simp)
    obtain ⟨ts, e2, h2⟩ := vals_tms ys fun z hz => h z (by simp [hz])
    refine ⟨t :: ts, by rw [e, e2]; rfl, ?_⟩
    show t.cnt + tsum ts = ys.length + 1
    omega
theorem isDat_val (t : Tm) : isDat t.val = true := dat_isDat t.dat
end Mp
namespace Mp

open PySem

def isLetV : Val → Bool
  | .str s => isLet s
  | _ => false
theorem in_let (s : Str) : isIn (.str s) (.tup [.str ⟨#[97]⟩, .str ⟨#[98]⟩, .str ⟨#[99]⟩, .str ⟨#[100]⟩]) = some (isLet s) := by
  rw [isIn_tup _ _ (id rfl) (.inr (Nat.zero_le _))]
  unfold isLet
  congr 1
  show ((letS 0 == s) || ((letS 1 == s) || ((letS 2 == s) || ((letS 3 == s) || false)))) = _
  rw [Bool.or_false, BEq.comm (a := letS 0), BEq.comm (a := letS 1), BEq.comm (a := letS 2), BEq.comm (a := letS 3), Bool.or_assoc, Bool.or_assoc]
theorem popL_snoc (xs : List Val) (v : Val) : popL (.lst (xs ++ [v])) = some (v, .lst xs) := by
  unfold popL
  simp
/-- whether so many letters and these parts make a term -/
def resL (f : Nat) (todo : List Val) : Bool := match cnts todo with
  | some n => Nat.ble (f + n) 40
  | none => false
theorem cnts_snoc (xs : List Val) (x : Val) : cnts (xs ++ [x]) = osum (cnt x) (cnts xs) := by
  rw [cnts_app, osum_comm]
  congr 1
  show osum (cnt x) (some 0) = _
  cases cnt x <;> simp [osum]
theorem resL_snoc (f : Nat) (xs : List Val) (x : Val) : resL f (xs ++ [x]) = resL f (x :: xs) := by
  unfold resL
  rw [cnts_snoc]
  rfl
theorem resL_letter (f : Nat) (xs : List Val) {s : Str} (h : isLet s = true) : resL f (.str s :: xs) = resL (f + 1) xs := by
  unfold resL
  show (match osum (cnt (.str s)) (cnts xs) with | some n => Nat.ble (f + n) 40 | none => false) = _
  rw [cnt_str, if_pos h]
  cases cnts xs with
  | none => rfl
  | some n =>
    show Nat.ble (f + (1 + n)) 40 = Nat.ble (f + 1 + n) 40
    rw [Nat.add_assoc]
theorem resL_node (f : Nat) (xs : List Val) (a b : Val) : resL f (.tup [.str star, a, b] :: xs) = resL f (xs ++ [a, b]) := by
  unfold resL
  show (match osum (cnt (.tup [.str star, a, b])) (cnts xs) with | some n => Nat.ble (f + n) 40 | none => false) = _
  rw [cnt_nd, if_pos (by decide), cnts_app, osum_comm]
  congr 2
  show osum (cnt a) (cnt b) = osum (cnt a) (osum (cnt b) (some 0))
  cases cnt a <;> cases cnt b <;> simp [osum]
theorem resL_swap (f : Nat) (xs : List Val) (a b : Val) : resL f (xs ++ [a, b]) = resL f (xs ++ [b, a]) := by
  unfold resL
  rw [cnts_app, cnts_app]
  congr 2
  show osum (cnt a) (osum (cnt b) (some 0)) = osum (cnt b) (osum (cnt a) (some 0))
  cases cnt a <;> cases cnt b <;> simp [osum, Nat.add_comm]
theorem resL_bad (f : Nat) (xs : List Val) {x : Val} (h : cnt x = none) : resL f (x :: xs) = false := by
  unfold resL
  show (match osum (cnt x) (cnts xs) with | some n => Nat.ble (f + n) 40 | none => false) = _
  rw [h]
  rfl
theorem resL_cap (f : Nat) (xs : List Val) (h : 40 < f + xs.length) : resL f xs = false := by
  unfold resL
  cases e : cnts xs with
  | none => rfl
  | some n =>
    have := cnts_len e
    show Nat.ble (f + n) 40 = false
    cases hb : Nat.ble (f + n) 40 with
    | false => rfl
    | true => have := Nat.le_of_ble_eq_true hb; omega
theorem resL_one (v : Val) : resL 0 [v] = isTerm v := by
  unfold resL isTerm
  show (match osum (cnt v) (some 0) with | some n => Nat.ble (0 + n) 40 | none => false) = _
  cases cnt v <;> simp [osum]
theorem cnt_none {v : Val} (h1 : isLetV v = false) (h2 : ∀ a b, v ≠ .tup [.str star, a, b]) : cnt v = none := by
  by_cases q : ∃ s, v = .str s
  · obtain ⟨s, rfl⟩ := q
    rw [cnt_str, if_neg]
    intro z
    have h1 : isLet s = false := h1
    rw [h1] at z
    cases z
  · by_cases q2 : ∃ s l r, v = .tup [.str s, l, r]
    · obtain ⟨s, l, r, rfl⟩ := q2
      rw [cnt_nd, if_neg]
      intro z
      rw [eq_of_beq z] at h2
      exact h2 l r rfl
    · exact cnt_else (fun s e => q ⟨s, e⟩) fun s l r e => q2 ⟨s, l, r, e⟩
theorem isT_three {v : Val} (h : isT v 3 3 = true) : ∃ a b c, v = .tup [a, b, c] := by
  obtain ⟨xs, rfl, h1, h2⟩ := isT_tup h
  match xs, h1, h2 with
  | [a, b, c], _, _ => exact ⟨a, b, c, rfl⟩
  | [], h1, _ => simp at h1
  | [_], h1, _ => simp at h1
  | [_, _], h1, _ => simp at h1
  | _ :: _ :: _ :: _ :: _, _, h2 => simp at h2; omega
theorem three_at (a b c : Val) : L2.atI [a, b, c] 0 = some a ∧ L2.atI [a, b, c] 1 = some b ∧ L2.atI [a, b, c] 2 = some c := ⟨rfl, rfl, rfl⟩
end Mp
namespace Mp

open PySem

def isRule : Val → Bool
  | .tup [a, b] => isTerm a && isTerm b
  | _ => false
theorem isT_two {v : Val} (h : isT v 2 2 = true) : ∃ a b, v = .tup [a, b] := by
  obtain ⟨xs, rfl, h1, h2⟩ := isT_tup h
  match xs, h1, h2 with
  | [a, b], _, _ => exact ⟨a, b, rfl⟩
  | [], h1, _ => simp at h1
  | [_], h1, _ => simp at h1
  | _ :: _ :: _ :: _, _, h2 => simp at h2; omega
theorem two_at (a b : Val) : L2.atI [a, b] 0 = some a ∧ L2.atI [a, b] 1 = some b := ⟨rfl, rfl⟩
theorem isRule_no {v : Val} (h : isT v 2 2 = false) : isRule v = false := by
  unfold isRule
  split
  · cases h
  · rfl
/-! ### steps -/

def itV : Option Tm → Val
  | none => .str star
  | some t => t.val
def itP : Option Tm → List Val
  | none => [.str star]
  | some t => t.post
def itS : Option Tm → Nat
  | none => 1
  | some t => 2 * t.size
def isum : List (Option Tm) → Nat
  | [] => 0
  | x :: xs => itS x + isum xs
theorem isum_app : ∀ a b, isum (a ++ b) = isum a + isum b
  | [], b => by simp [isum]
  | x :: a, b => by
    show itS x + isum (a ++ b) = itS x + isum a + isum b
    rw [isum_app a b, Nat.add_assoc]
theorem itP_pos : ∀ x, 1 ≤ (itP x).length
  | none => Nat.le_refl _
  | some t => by rw [show itP (some t) = t.post from rfl, t.post_len]; have := t.size_eq; have := t.cnt_pos; omega
theorem itP_len : ∀ l : List (Option Tm), l.length ≤ (l.flatMap itP).length
  | [] => Nat.le_refl _
  | x :: l => by
    have := itP_len l
    have := itP_pos x
    rw [List.flatMap_cons, List.length_append, List.length_cons]
    omega
theorem itV_dat (x : Option Tm) : isDat (itV x) = true := by
  cases x with
  | none => exact id rfl
  | some t => exact isDat_val t
end Mp
namespace Mp

open PySem

/-- four things of a product -/
structure Fo (pr : List (List Int)) (th : List Int) : Prop where
  len : th.length = 4
  lt : Ths pr th
theorem idx_let (k : Fin 4) : meth .index (.tup [.str ⟨#[97]⟩, .str ⟨#[98]⟩, .str ⟨#[99]⟩, .str ⟨#[100]⟩]) [.str (letS k)] = some (.int k.val) := by
  match k with
  | 0 => rfl
  | 1 => rfl
  | 2 => rfl
  | 3 => rfl
theorem Fo.at {pr : List (List Int)} {th : List Int} (h : Fo pr th) (k : Fin 4) : idxV (rowV th) (.int k.val) = some (.int (entAt th k.val)) := idx_row (by omega) (by rw [h.len]; have := k.isLt; omega)
theorem undefd_pr {β : Type} (pr : List (List Int)) (z k : β) : undefd (prV pr) z k = k := rfl
theorem undefd_row {β : Type} (pr : List Int) (z k : β) : undefd (rowV pr) z k = k := rfl
theorem row_dat (l : List Int) (m : Nat) (h : l.length ≤ m) : dat m (rowV l) = true := by
  unfold rowV
  rw [dat_tup]
  refine ⟨by rw [List.length_map]; exact h, fun x hx => ?_⟩
  obtain ⟨i, _, rfl⟩ := List.mem_map.mp hx
  simp
theorem Prd.dat {pr : List (List Int)} (h : Prd pr) : Mp.dat 8 (prV pr) = true := by
  unfold prV
  rw [dat_tup]
  refine ⟨by rw [List.length_map]; exact h.le, fun x hx => ?_⟩
  obtain ⟨l, hl, rfl⟩ := List.mem_map.mp hx
  exact row_dat l 8 (by rw [h.sq l hl]; exact h.le)
theorem areTh_row {many : Int} {l : List Int} {lo hi : Int} (h : Below many l) (h1 : lo ≤ l.length) (h2 : l.length ≤ hi) : areTh many (rowV l) lo hi = true := by
  unfold areTh rowV isT parts
  simp only [List.length_map, Bool.and_eq_true, decide_eq_true_eq, List.all_eq_true, List.mem_map, forall_exists_index, and_imp]
  refine ⟨⟨h1, h2⟩, fun v x hx e => ?_⟩
  subst e
  have := h x hx
  unfold isW
  simp only [Bool.and_eq_true, decide_eq_true_eq]
  omega
theorem len_pr (pr : List (List Int)) : lenV (prV pr) = some (.int pr.length) := by
  show some (Val.int ((pr.map rowV).length : Int)) = _
  rw [List.length_map]
end Mp
namespace Mp

open PySem

def turnP (pr : List (List Int)) : List (List Int) := (List.range pr.length).map fun (j : Nat) => pr.map fun l => entAt l j
theorem turnP_len (pr : List (List Int)) : (turnP pr).length = pr.length := by simp [turnP]
theorem Prd.turn {pr : List (List Int)} (h : Prd pr) : Prd (turnP pr) := by
  refine ⟨by rw [turnP_len]; exact h.pos, by rw [turnP_len]; exact h.le, fun l hl => ?_, fun l hl x hx => ?_⟩
  · obtain ⟨j, _, rfl⟩ := List.mem_map.mp hl
    rw [turnP_len, List.length_map]
  · obtain ⟨j, hj, rfl⟩ := List.mem_map.mp hl
    obtain ⟨r, hr, rfl⟩ := List.mem_map.mp hx
    have hj := List.mem_range.mp hj
    rw [turnP_len]
    exact h.lt r hr _ (getD_mem (by rw [h.sq r hr]; simpa using hj) 0)
theorem entAt_nat (l : List Int) {j : Nat} (h : j < l.length) : entAt l (j : Int) = l[j] := by
  unfold entAt
  simp [h]
theorem turn_turn {pr : List (List Int)} (h : Prd pr) : turnP (turnP pr) = pr := by
  apply List.ext_getElem
  · simp [turnP]
  · intro i h1 h2
    simp [turnP] at h1
    have hs := h.sq _ (List.getElem_mem h2)
    apply List.ext_getElem
    · simp [turnP, hs]
    · intro j h3 h4
      have hj : j < pr.length := by simpa [turnP] using h3
      have e1 : (turnP (turnP pr))[i]'(by simp [turnP]; exact h2) = (turnP pr).map fun l => entAt l i := by
        simp [turnP]
      have e2 : (turnP pr)[j]'(by simp [turnP]; exact hj) = pr.map fun l => entAt l j := by
        simp [turnP]
      simp only [e1, List.getElem_map, e2]
      rw [entAt_nat _ (by simpa using h2), List.getElem_map, entAt_nat _ (by rw [hs]; exact hj)]
theorem bifn_tup_lst (xs : List Val) : bifn .tuple [.lst xs] = some (.tup xs) := rfl
theorem sp_turned (n : Nat) {pr : List (List Int)} (hp : Prd pr) : callF p (n + 6) i_turned_product [prV pr] = .ok (prV (turnP pr)) [] := by
  rw [callF_succ, fn_turned_product]
  have h1 := sp_need_product n 8 _ hp.dat hp.is
  have h8 := hp.le
  have hit : items .plain [prV pr] = some (pr.map rowV) := rfl
  simp -implicitDefEqProofs [runFn, p_turned_product, undefd_pr, undefd_row, h1, len_pr, range_items pr.length (by omega), upFrom_len2, lim_le (show pr.length ≤ 100000 by omega)]
  rw [comp_range (fun j => rowV (pr.map fun l => entAt l j)) pr.length fun i hi => ?_]
  · simp -implicitDefEqProofs
    simp [prV, turnP]
  · refine ⟨_, rfl, rfl, ?_⟩
    simp -implicitDefEqProofs [undefd_pr, hit, lim_le (show pr.length ≤ 100000 by omega)]
    rw [comp_list rowV (fun l => .int (entAt l i)) pr fun l hl => ?_]
    · simp -implicitDefEqProofs [rowV]
    · refine ⟨_, rfl, rfl, ?_⟩
      simp -implicitDefEqProofs [undefd_row, idx_row (show (0 : Int) ≤ i by omega) (show (i : Int) < l.length by rw [hp.sq l hl]; omega)]
end Mp
namespace Mp

open PySem

theorem filter_isEmpty {α : Type} (c : α → Bool) (xs : List α) : (xs.filter c).isEmpty = xs.all fun x => !c x := by
  induction xs with
  | nil => rfl
  | cons x xs ih =>
    rw [List.filter_cons, List.all_cons, ← ih]
    cases c x <;> simp
theorem isT_t (ys : List Val) (lo hi : Int) : isT (.tup ys) lo hi = (decide (lo ≤ (ys.length : Int)) && decide ((ys.length : Int) ≤ hi)) := rfl
theorem isT_len (ys : List Val) (n : Nat) : isT (.tup ys) n n = ((ys.length : Int) == (n : Int)) := by
  rw [isT_t]
  by_cases h : (ys.length : Int) = n
  · rw [h]; simp
  · have e : ((ys.length : Int) == (n : Int)) = false := beq_eq_false_iff_ne.mpr h
    rw [e]
    by_cases h2 : (n : Int) ≤ ys.length
    · rw [decide_eq_true h2, decide_eq_false (by omega)]; rfl
    · rw [decide_eq_false h2]; rfl
end Mp
namespace Mp

open PySem

theorem dats_all {m : Nat} {l : List Val} (h : dats m l = true) {x : Val} (hx : x ∈ l) : dat m x = true := dats_iff.mp h x hx
theorem dat_tup' {n : Nat} {xs : List Val} (h1 : xs.length ≤ n) (h2 : dats n xs = true) : dat n (.tup xs) = true := dat_tup.mpr ⟨h1, dats_iff.mp h2⟩
/-- a place in a tuple -/
structure Way (m : Nat) (w : Val × Int) : Prop where
  tup : ∃ xs, w.1 = .tup xs ∧ dat m (.tup xs) = true ∧ 0 ≤ w.2 ∧ w.2 < xs.length
def wayV (w : Val × Int) : Val := .tup [w.1, .int w.2]
end Mp
namespace Mp

open PySem

theorem sidx_of {a b : Str} {i : Nat} (h : Builtin.Str.occurrences a b 0 a.length 1 = [i]) : sIndex a (.str b) = some (.int i) := by
  show (match Builtin.Str.occurrences a b 0 a.length 1 with
    | i :: _ => some (Val.int (i : Nat))
    | [] => none) = _
  rw [h]
theorem sidx_let (k : Fin 4) : sIndex ⟨#[97, 98, 99, 100]⟩ (.str (letS k)) = some (.int k.val) := by
  match k with
  | 0 => exact sidx_of (by decide +kernel)
  | 1 => exact sidx_of (by decide +kernel)
  | 2 => exact sidx_of (by decide +kernel)
  | 3 => exact sidx_of (by decide +kernel)
def downs : Nat → List Val
  | 0 => []
  | n + 1 => .int n :: downs n
theorem rangeC_downs : ∀ n : Nat, rangeC ((n : Int) - 1) (-1) n = downs n
  | 0 => rfl
  | n + 1 => by
    show Val.int (((n + 1 : Nat) : Int) - 1) :: rangeC (((n + 1 : Nat) : Int) - 1 + -1) (-1) n = .int n :: downs n
    rw [← rangeC_downs n]
    congr 1
    · congr 1
      omega
    · congr 1
      omega
theorem range_down {n : Nat} (h : 1 ≤ n) (h2 : n ≤ 100000) : items .range [.int ((n : Int) - 1), .int (-1), .int (-1)] = some (downs n) := by
  have hsz : Builtin.Range.rangeSize ((n : Int) - 1) (-1) (-1) = n := by
    unfold Builtin.Range.rangeSize
    rw [if_neg (by omega), if_pos (by omega)]
    have : (- -1 : Int) = 1 := by omega
    rw [this, Int.ediv_one]
    omega
  have hsm : Builtin.Range.small ((n : Int) - 1) (-1) (-1) = true := by
    unfold Builtin.Range.small
    simp only [hsz]
    have e1 : Builtin.Range.rangeFitsLong ((n : Int) - 1) = true := by unfold Builtin.Range.rangeFitsLong; simp; omega
    have e2 : Builtin.Range.rangeFitsLong (n : Int) = true := by unfold Builtin.Range.rangeFitsLong; simp; omega
    have e3 : Builtin.Range.rangeFitsLong (-1) = true := by decide
    rw [e1, e2, e3]
    have e4 : ((n : Int) == 0) = false := beq_eq_false_iff_ne.mpr (by omega)
    rw [e4]
    decide
  show (if decide ((-1 : Int) ≠ 0) && decide ((-1 : Int).natAbs < 1073741824) && Builtin.Range.small ((n : Int) - 1) (-1) (-1) && Nat.ble (Builtin.Range.rangeSize ((n : Int) - 1) (-1) (-1)).toNat LIM then some (rangeC ((n : Int) - 1) (-1) (Builtin.Range.rangeSize ((n : Int) - 1) (-1) (-1)).toNat) else none) = _
  rw [hsz, hsm, Int.toNat_natCast, lim_le h2, rangeC_downs]
  rfl
/-! ### parts, laid down -/

def isNd : Tm → Bool
  | .lf _ => false
  | .nd _ _ => true
def nds : List Tm → Nat
  | [] => 0
  | t :: ts => (if isNd t then 1 else 0) + nds ts
theorem nds_app : ∀ a b : List Tm, nds (a ++ b) = nds a + nds b
  | [], b => by simp [nds]
  | t :: a, b => by
    show (if isNd t then 1 else 0) + nds (a ++ b) = (if isNd t then 1 else 0) + nds a + nds b
    rw [nds_app a b]
    omega
def tsz : List Tm → Nat
  | [] => 0
  | t :: ts => t.size + tsz ts
theorem tsz_app : ∀ a b : List Tm, tsz (a ++ b) = tsz a + tsz b
  | [], b => by simp [tsz]
  | t :: a, b => by
    show t.size + tsz (a ++ b) = t.size + tsz a + tsz b
    rw [tsz_app a b]
    omega
theorem Tm.size_pos (t : Tm) : 1 ≤ t.size := by have := t.size_eq; have := t.cnt_pos; omega
theorem tsz_len : ∀ a : List Tm, a.length ≤ tsz a
  | [] => Nat.le_refl _
  | t :: a => by
    have := tsz_len a
    have := t.size_pos
    show a.length + 1 ≤ t.size + tsz a
    omega
/-- the parts up to a are laid down -/
structure Bfs (t : Tm) (ts : List Tm) (a : Nat) : Prop where
  len : ts.length = 1 + 2 * nds (ts.take a)
  head : ts[0]? = some t
  le : a ≤ ts.length
  sz : a + tsz (ts.drop a) = t.size
  kid : ∀ i l r, i < a → ts[i]? = some (.nd l r) → ts[2 * nds (ts.take i) + 1]? = some l ∧ ts[2 * nds (ts.take i) + 2]? = some r ∧ i ≤ 2 * nds (ts.take i)
theorem Bfs.start (t : Tm) : Bfs t [t] 0 := ⟨rfl, rfl, by simp, by simp [tsz], fun i l r h => absurd h (Nat.not_lt_zero _)⟩
theorem Bfs.small {t : Tm} {ts : List Tm} {a : Nat} (h : Bfs t ts a) : ts.length ≤ t.size := by
  have h1 := tsz_len (ts.drop a)
  have h2 := h.sz
  have h3 := h.le
  rw [List.length_drop] at h1
  omega
theorem take_snoc {α : Type} {l : List α} {a : Nat} {x : α} (h : l[a]? = some x) : l.take (a + 1) = l.take a ++ [x] := by
  rw [List.take_succ, h]
  rfl
theorem drop_cons {α : Type} {l : List α} {a : Nat} {x : α} (h : l[a]? = some x) : l.drop a = x :: l.drop (a + 1) := by
  have hl : a < l.length := (List.getElem?_eq_some_iff.mp h).1
  rw [List.drop_eq_getElem_cons hl]
  congr 1
  exact (List.getElem?_eq_some_iff.mp h).2
theorem Bfs.leaf {t : Tm} {ts : List Tm} {a : Nat} {k : Fin 4} (h : Bfs t ts a) (hx : ts[a]? = some (.lf k)) : Bfs t ts (a + 1) := by
  have hl : a < ts.length := (List.getElem?_eq_some_iff.mp hx).1
  have hsz := h.sz
  rw [drop_cons hx] at hsz
  refine ⟨?_, h.head, hl, ?_, fun i l r hi hn => ?_⟩
  · rw [take_snoc hx, nds_app, h.len]
    simp [nds, isNd]
  · have : tsz (.lf k :: ts.drop (a + 1)) = 1 + tsz (ts.drop (a + 1)) := rfl
    omega
  · by_cases e : i = a
    · subst e
      rw [hx] at hn
      cases hn
    · exact h.kid i l r (by omega) hn
theorem Bfs.node {t : Tm} {ts : List Tm} {a : Nat} {l r : Tm} (h : Bfs t ts a) (hx : ts[a]? = some (.nd l r)) : Bfs t (ts ++ [l, r]) (a + 1) := by
  have hl : a < ts.length := (List.getElem?_eq_some_iff.mp hx).1
  have hsz := h.sz
  rw [drop_cons hx] at hsz
  have hlen := h.len
  have tk : ∀ i, i ≤ ts.length → (ts ++ [l, r]).take i = ts.take i := fun i hi => by
    rw [List.take_append_of_le_length hi]
  refine ⟨?_, ?_, by simp; omega, ?_, fun i l' r' hi hn => ?_⟩
  · rw [tk _ hl, take_snoc hx, nds_app, List.length_append, hlen]
    simp [nds, isNd]
    omega
  · rw [List.getElem?_append_left (by omega)]
    exact h.head
  · have e1 : tsz (.nd l r :: ts.drop (a + 1)) = (1 + l.size + r.size) + tsz (ts.drop (a + 1)) := rfl
    rw [List.drop_append_of_le_length (show a + 1 ≤ ts.length from hl), tsz_app]
    have e2 : tsz [l, r] = l.size + r.size := by simp [tsz]
    omega
  · rw [List.getElem?_append_left (by omega)] at hn
    rw [tk i (by omega)]
    by_cases e : i = a
    · subst e
      rw [hx] at hn
      cases hn
      refine ⟨?_, ?_, by omega⟩
      · rw [List.getElem?_append_right (by omega), show 2 * nds (List.take i ts) + 1 - ts.length = 0 by omega]
        simp
      · rw [List.getElem?_append_right (by omega), show 2 * nds (List.take i ts) + 2 - ts.length = 1 by omega]
        simp
    · obtain ⟨k1, k2, k3⟩ := h.kid i l' r' (by omega) hn
      have b1 := (List.getElem?_eq_some_iff.mp k1).1
      have b2 := (List.getElem?_eq_some_iff.mp k2).1
      exact ⟨by rw [List.getElem?_append_left b1]; exact k1, by rw [List.getElem?_append_left b2]; exact k2, k3⟩
theorem getq_lt {α : Type} {l : List α} {i : Nat} {x : α} (h : l[i]? = some x) : i < l.length := (List.getElem?_eq_some_iff.mp h).1
theorem at_q {α : Type} {l : List α} {i : Nat} {x : α} (h : l[i]? = some x) : L2.atI l (i : Int) = some x := by
  rw [atI_int (by omega) (by have := getq_lt h; omega), Int.toNat_natCast, h]
theorem map_q {α β : Type} (f : α → β) {l : List α} {i : Nat} {x : α} (h : l[i]? = some x) : (l.map f)[i]? = some (f x) := by
  rw [List.getElem?_map, h]; rfl
theorem reps_one (x : Val) : ∀ n, reps [x] n = List.replicate n x
  | 0 => rfl
  | n + 1 => by
    show [x] ++ reps [x] n = _
    rw [reps_one x n]
    rfl
theorem bMul_rep (x : Val) (n : Nat) (h : n ≤ 100000) : bMul (.lst [x]) (.int n) = some (.lst (List.replicate n x)) := by
  show (if decide ((0 : Int) ≤ n) && decide ((n : Int) < 1000000) && Nat.ble ([x].length * (n : Int).toNat) LIM then some (Val.lst (reps [x] (n : Int).toNat)) else none) = _
  rw [if_pos, Int.toNat_natCast, reps_one]
  simp only [Bool.and_eq_true, decide_eq_true_eq]
  exact ⟨⟨by omega, by omega⟩, Nat.ble_eq_true_of_le (by simp; exact le_LIM h)⟩
/-- what stands for a part in places -/
def plOf (x : Tm) (k : Nat) : Int := if isNd x then 2 * (k : Int) + 1 else -1
theorem sortV_tm (x : Tm) : sortV x.val = if isNd x then 4 else 3 := by cases x <;> rfl
end Mp
namespace Mp

open PySem

theorem sp_cup (n : Nat) (ns : List Int) (hn : ns.length ≤ 1000) : ∃ c', callF p (n + 1) i__law_cup [.opq 0 (ns.map .int)] = .ok c' [.opq 0 (ns.map .int)] ∧ Cup c' := by
  rw [callF_succ, fn__law_cup]
  obtain ⟨a, w, hw⟩ : ∃ (a : Int) (w : List Val), ns.map Val.int ++ [.int 0] = .int a :: w := by
    cases ns with
    | nil => exact ⟨0, [], rfl⟩
    | cons a r => exact ⟨a, r.map .int ++ [.int 0], rfl⟩
  have ha : L2.atI (Val.int a :: w) 0 = some (.int a) := by
    rw [atI_int (by omega) (by simp)]
    rfl
  have hadd := bAdd_lst (ns.map Val.int) [.int 0] (le_LIM (by simp; omega))
  rw [hw] at hadd
  obtain ⟨b, hb⟩ : ∃ b : Int, b = if a < 0 then -a else a := ⟨_, rfl⟩
  have hb0 : 0 ≤ b := by rw [hb]; split <;> omega
  have hpow : bPow (.int 10) (.int 18) = some (.int 1000000000000000000) := by rfl
  have hdiv : bDiv (.int b) (.int 73) = some (.int (b / 73)) := bDiv_int _ _ (by omega) (by omega)
  have hmul : bMul (.int b) (.int 283) = some (.int (b * 283)) := bMul_int _ _ (.inr (small_of (by omega) (by omega)))
  have hmod : ∀ x : Int, bMod (.int x) (.int 2077503167) = some (.int (x % 2077503167)) := fun x => bMod_int _ _ (by omega)
  have h1 : 0 ≤ (b * 283 + 3907) % 2077503167 := Int.emod_nonneg _ (by omega)
  have h2 : (b * 283 + 3907) % 2077503167 < 2077503167 := Int.emod_lt_of_pos _ (by omega)
  by_cases hbig : (1000000000000000000 : Int) ≤ b
  · refine ⟨.lst [.int (b / 73), .int ((b * 283 + 3907) % 2077503167 + 167)], ?_, _, _, rfl, Int.ediv_nonneg hb0 (by omega), by omega, by omega⟩
    have hbig : decide ((1000000000000000000 : Int) ≤ b) = true := decide_eq_true hbig
    simp -implicitDefEqProofs [runFn, p__law_cup, hadd, ha, ← hb, hpow, hdiv, hmul, hmod, hbig]
  · refine ⟨.lst [.int 0, .int ((b * 283 + 3907) % 2077503167 + 167)], ?_, _, _, rfl, Int.le_refl _, by omega, by omega⟩
    have hbig : decide ((1000000000000000000 : Int) ≤ b) = false := decide_eq_false hbig
    simp -implicitDefEqProofs [runFn, p__law_cup, hadd, ha, ← hb, hpow, hdiv, hmul, hmod, hbig]
theorem deps_ints : ∀ l : List Int, deps (l.map .int) = 0
  | [] => rfl
  | x :: l => by
    show max (dep (.int x)) (deps (l.map .int)) = 0
    rw [deps_ints l]
    rfl
theorem dep_row (l : List Int) : dep (rowV l) = 1 := by
  show deps (l.map Val.int) + 1 = 1
  rw [deps_ints]
theorem dep_pr (p : List (List Int)) : dep (prV p) ≤ 2 := by
  show deps (p.map rowV) + 1 ≤ 2
  have : deps (p.map rowV) ≤ 1 := by
    induction p with
    | nil => exact Nat.zero_le _
    | cons l p ih =>
      show max (dep (rowV l)) (deps (p.map rowV)) ≤ 1
      rw [dep_row]
      omega
  omega
theorem dep_tm : ∀ t : Tm, dep t.val ≤ t.cnt
  | .lf k => Nat.zero_le _
  | .nd l r => by
    have h1 := dep_tm l
    have h2 := dep_tm r
    have h3 := l.cnt_pos
    have h4 := r.cnt_pos
    show max (dep (.str star)) (max (dep l.val) (max (dep r.val) 0)) + 1 ≤ l.cnt + r.cnt
    have : dep (.str star) = 0 := rfl
    omega
theorem turned_law (C : Nat → List Val → RC) {pr : List (List Int)} (hp : Prd pr) {e : Env} (h1 : gt e 1 = prV pr) (h3 : gt e 3 = .int pr.length)
    (f1 : ∀ x y, gt (st (st e 8 x) 7 y) 1 = prV pr) (f2 : ∀ x y, gt (st (st e 8 x) 7 y) 7 = y) (f3 : ∀ x y, gt (st (st e 8 x) 7 y) 8 = x) (f4 : ∀ x, gt (st e 8 x) 3 = .int pr.length)
    (g1 : ∀ x y, st (st (st e 8 x) 7 y) 7 .undef = st e 8 x) (g2 : ∀ x, st (st e 8 x) 8 .undef = e) (g3 : st e 8 .undef = e) (g4 : ∀ x, st (st e 8 x) 7 .undef = st e 8 x) (g5 : ∀ x, gt (st e 8 x) 7 = .undef) (g6 : gt e 8 = .undef) :
    ev C (.bi .tuple [(.comp (.one 8) .range [(.var 3)] [] (.bi .tuple [(.comp (.one 7) .range [(.var 3)] [] (.idx (.idx (.var 1) (.var 7)) (.var 8)))]))]) e = .ok (prV (turnP pr)) e := by
  have h8 := hp.le
  have hri := range_items pr.length (by omega)
  have hlim := lim_le (show pr.length ≤ 100000 by omega)
  simp -implicitDefEqProofs [h3, hri, upFrom_len2, hlim, g3]
  rw [comp_range (fun j => rowV (pr.map fun l => entAt l j)) pr.length fun i hi => ?_]
  · simp -implicitDefEqProofs [g6, g3]
    simp [prV, turnP]
  · refine ⟨_, rfl, by simp [g2], ?_⟩
    simp -implicitDefEqProofs [f4, hri, upFrom_len2, hlim, g4]
    rw [comp_range (fun j => .int (mul pr j i)) pr.length fun j hj => ?_]
    · have hm : (List.range pr.length).map (fun (j : Nat) => Val.int (mul pr (j : Int) (i : Int))) = pr.map fun l => Val.int (entAt l i) :=
        map_range_getD pr [] fun l => Val.int (entAt l (i : Int))
      rw [hm]
      simp -implicitDefEqProofs [rowV, g5, g4]
    · refine ⟨_, rfl, by simp [g1], ?_⟩
      have a1 : (0 : Int) ≤ j ∧ (j : Int) < pr.length := ⟨by omega, by omega⟩
      have a2 : (0 : Int) ≤ i ∧ (i : Int) < pr.length := ⟨by omega, by omega⟩
      simp -implicitDefEqProofs [f1, f2, f3, undefd_pr, idx_pr a1.1 a1.2, hp.at2 a1 a2]
theorem dat_list {m : Nat} {xs : List Val} (h1 : xs.length ≤ m) (h2 : ∀ x, x ∈ xs → dat m x = true) : dat m (.lst xs) = true := dat_lst.mpr ⟨h1, h2⟩
theorem deps_le {d : Nat} : ∀ {xs : List Val}, (∀ x, x ∈ xs → dep x ≤ d) → deps xs ≤ d
  | [], _ => Nat.zero_le _
  | x :: xs, h => by
    show max (dep x) (deps xs) ≤ d
    have := h x (by simp)
    have := deps_le (xs := xs) fun y hy => h y (by simp [hy])
    omega
theorem like_lst (n m d : Nat) (hm : m ≤ 100000) {xs : List Val} (h1 : xs.length ≤ m) (h2 : ∀ x, x ∈ xs → dat m x = true ∧ dep x ≤ d) : callF p (n + (d + 1) + 2) i__law_like [.lst xs, .lst xs] = .ok (.bl true) [] :=
  sp_like m hm (d + 1) n _ (dat_list h1 fun x hx => (h2 x hx).1) (by
    show deps xs + 1 ≤ d + 1
    have := deps_le fun x hx => (h2 x hx).2
    omega)
theorem ints_list {M : Int} : ∀ {ys : List Val}, (∀ y, y ∈ ys → ∃ i : Int, y = .int i ∧ 0 ≤ i ∧ i < M) → ∃ l : List Int, ys = l.map .int ∧ Below M l
  | [], _ => ⟨[], rfl, fun _ z => nomatch z⟩
  | y :: ys, h => by
    obtain ⟨i, e, h0⟩ := h y (by simp)
    obtain ⟨l, e2, hl⟩ := ints_list (ys := ys) fun z hz => h z (by simp [hz])
    refine ⟨i :: l, by rw [e, e2]; rfl, fun x hx => ?_⟩
    rcases List.mem_cons.mp hx with q | q
    · rw [q]; exact h0
    · exact hl x q
end Mp
namespace Mp

open PySem

/-! ### letters -/

def Tm.lets : Tm → List Val
  | .lf k => [.str (letS k)]
  | .nd l r => l.lets ++ r.lets
theorem Tm.lets_len : ∀ t : Tm, t.lets.length = t.cnt
  | .lf _ => rfl
  | .nd l r => by
    show (l.lets ++ r.lets).length = l.cnt + r.cnt
    rw [List.length_append, l.lets_len, r.lets_len]
def Tm.has (k : Fin 4) : Tm → Bool
  | .lf j => j == k
  | .nd l r => l.has k || r.has k
theorem anyEq_app (x : Val) : ∀ a b : List Val, anyEq x (a ++ b) = (anyEq x a || anyEq x b)
  | [], b => by simp [anyEq]
  | y :: a, b => by
    show (eqv y x || anyEq x (a ++ b)) = (eqv y x || anyEq x a || anyEq x b)
    rw [anyEq_app x a b, Bool.or_assoc]
theorem letS_eq (j k : Fin 4) : (letS j == letS k) = (j == k) := by
  revert j k
  decide
theorem anyEq_lets (k : Fin 4) : ∀ t : Tm, anyEq (.str (letS k)) t.lets = t.has k
  | .lf j => by
    show ((letS j == letS k) || false) = _
    rw [Bool.or_false, letS_eq]
    rfl
  | .nd l r => by
    show anyEq _ (l.lets ++ r.lets) = _
    rw [anyEq_app, anyEq_lets k l, anyEq_lets k r]
    rfl
theorem tlsum : ∀ l : List Tm, l.length ≤ (l.flatMap Tm.lets).length
  | [] => Nat.le_refl _
  | x :: l => by
    have := tlsum l
    have := x.cnt_pos
    rw [List.flatMap_cons, List.length_append, List.length_cons, x.lets_len]
    omega
/-! ### which letters a rule has -/

def hasR (t1 t2 : Tm) (k : Fin 4) : Bool := t1.has k || t2.has k
def usR (t1 t2 : Tm) : List Bool := [hasR t1 t2 0, hasR t1 t2 1, hasR t1 t2 2, hasR t1 t2 3]
theorem in_lets (t1 t2 : Tm) (k : Fin 4) : isIn (.str (letS k)) (.lst (t1.lets ++ t2.lets)) = some (hasR t1 t2 k) := by
  show (if isDat (.str (letS k)) && Nat.ble (min (deps (t1.lets ++ t2.lets)) (dep (.str (letS k)))) 180 then some (anyEq (.str (letS k)) (t1.lets ++ t2.lets)) else none) = _
  rw [if_pos, anyEq_app, anyEq_lets, anyEq_lets]
  · rfl
  · have e : dep (.str (letS k)) = 0 := rfl
    rw [e, Nat.min_zero]
    rfl
end Mp
namespace Mp

open PySem

/-! ### all things for the letters -/

def opts (N : Nat) (u : Bool) : List Int := if u then natsI N else [0]
def ext1 (N : Nat) (u : Bool) (some : List Int) : List (List Int) := (opts N u).map fun th => some ++ [th]
def extTh (N : Nat) (u : Bool) (found : List (List Int)) : List (List Int) := found.flatMap (ext1 N u)
def allTh (N : Nat) (us : List Bool) : List (List Int) := us.foldl (fun f u => extTh N u f) [[]]
theorem opts_len (N : Nat) (u : Bool) (h : 1 ≤ N) : (opts N u).length ≤ N ∧ 1 ≤ (opts N u).length := by
  cases u with
  | true => rw [opts, if_pos rfl, natsI_len]; exact ⟨Nat.le_refl _, h⟩
  | false => exact ⟨h, Nat.le_refl _⟩
theorem extTh_len (N : Nat) (u : Bool) (h : 1 ≤ N) : ∀ f : List (List Int), (extTh N u f).length ≤ f.length * N
  | [] => by simp [extTh]
  | a :: f => by
    have ih := extTh_len N u h f
    have := (opts_len N u h).1
    show (ext1 N u a ++ extTh N u f).length ≤ (f.length + 1) * N
    rw [List.length_append, Nat.add_mul]
    have e : (ext1 N u a).length = (opts N u).length := by simp [ext1]
    omega
theorem opts_mem {N : Nat} {u : Bool} {x : Int} (h : 1 ≤ N) : x ∈ opts N u ↔ (0 ≤ x ∧ x < N ∧ (u = true ∨ x = 0)) := by
  cases u with
  | true =>
    rw [opts, if_pos rfl, natsI_mem]
    simp
  | false =>
    show x ∈ [0] ↔ _
    rw [List.mem_singleton]
    constructor
    · intro e; subst e; exact ⟨by omega, by omega, .inr rfl⟩
    · intro q
      rcases q.2.2 with q | q
      · cases q
      · exact q
theorem allTh_snoc (N : Nat) (us : List Bool) (u : Bool) : allTh N (us ++ [u]) = extTh N u (allTh N us) := by simp [allTh, List.foldl_append]
theorem mem_ext {N : Nat} {u : Bool} {f : List (List Int)} {x : List Int} : x ∈ extTh N u f ↔ ∃ a t, a ∈ f ∧ t ∈ opts N u ∧ x = a ++ [t] := by
  unfold extTh ext1
  rw [List.mem_flatMap]
  constructor
  · rintro ⟨a, ha, hx⟩
    obtain ⟨t, ht, rfl⟩ := List.mem_map.mp hx
    exact ⟨a, t, ha, ht, rfl⟩
  · rintro ⟨a, t, ha, ht, rfl⟩
    exact ⟨a, ha, List.mem_map.mpr ⟨t, ht, rfl⟩⟩
theorem snoc_cases {α : Type} (l : List α) : l = [] ∨ ∃ r x, l = r ++ [x] := by
  rcases List.eq_nil_or_concat l with e | ⟨r, x, e⟩
  · exact .inl e
  · exact .inr ⟨r, x, by rw [e, List.concat_eq_append]⟩
theorem allTh_mem (N : Nat) (hN : 1 ≤ N) : ∀ (k : Nat) (us : List Bool) (x : List Int), us.length = k → (x ∈ allTh N us ↔ (x.length = us.length ∧ Below N x ∧ ∀ (i : Nat) (u : Bool), us[i]? = some u → u = true ∨ x[i]? = some 0))
  | 0, us, x, hk => by
    have e := List.eq_nil_of_length_eq_zero hk
    subst e
    constructor
    · intro h
      have h : x ∈ ([[]] : List (List Int)) := h
      rw [List.mem_singleton.mp h]
      exact ⟨rfl, (fun _ z => nomatch z), fun i u h => by simp at h⟩
    · rintro ⟨h, _⟩
      rw [List.eq_nil_of_length_eq_zero h]
      exact List.mem_singleton.mpr rfl
  | k + 1, us, x, hk => by
    rcases snoc_cases us with e | ⟨r, u, e⟩
    · rw [e] at hk; cases hk
    · subst e
      rw [List.length_append, List.length_singleton] at hk
      have ih := fun y => allTh_mem N hN k r y (by omega)
      rw [allTh_snoc, mem_ext]
      constructor
      · rintro ⟨a, t, ha, ht, rfl⟩
        obtain ⟨h1, h2, h3⟩ := (ih a).mp ha
        have h4 := (opts_mem hN).mp ht
        refine ⟨by simp [h1], h2.snoc ⟨h4.1, h4.2.1⟩, fun i v hv => ?_⟩
        by_cases hi : i < r.length
        · rw [List.getElem?_append_left hi] at hv
          rw [List.getElem?_append_left (by omega)]
          exact h3 i v hv
        · have := getq_lt hv
          rw [List.length_append, List.length_singleton] at this
          have e : i = r.length := by omega
          subst e
          rw [List.getElem?_append_right (Nat.le_refl _), Nat.sub_self] at hv
          cases hv
          rw [List.getElem?_append_right (by omega), h1, Nat.sub_self]
          rcases h4.2.2 with q | q
          · exact .inl q
          · exact .inr (by rw [q]; rfl)
      · rintro ⟨h1, h2, h3⟩
        rcases snoc_cases x with e | ⟨a, t, e⟩
        · rw [e] at h1; simp at h1
        · subst e
          rw [List.length_append, List.length_append, List.length_singleton, List.length_singleton] at h1
          have hal : a.length = r.length := by omega
          refine ⟨a, t, (ih a).mpr ⟨hal, fun y hy => h2 y (by simp [hy]), fun i v hv => ?_⟩, (opts_mem hN).mpr ?_, rfl⟩
          · have hi := getq_lt hv
            have := h3 i v (by rw [List.getElem?_append_left hi]; exact hv)
            rw [List.getElem?_append_left (by omega)] at this
            exact this
          · have h4 := h2 t (by simp)
            have := h3 r.length u (by rw [List.getElem?_append_right (Nat.le_refl _), Nat.sub_self]; rfl)
            rw [List.getElem?_append_right (by omega), hal, Nat.sub_self] at this
            refine ⟨h4.1, h4.2, this.imp id fun q => ?_⟩
            simpa using q
end Mp
namespace Mp

open PySem

/-- unlike worths -/
def unl (pr : List (List Int)) (t1 t2 : Tm) (th : List Int) : Bool := !(t1.ev pr th == t2.ev pr th)
def allR (pr : List (List Int)) (t1 t2 : Tm) : List (List Int) := allTh pr.length (usR t1 t2)
def firstC (pr : List (List Int)) (t1 t2 : Tm) : Option (List Int) := (allR pr t1 t2).find? (unl pr t1 t2)
def cV : Option (List Int) → Val
  | some th => rowV th
  | none => .non
theorem allR_fo {pr : List (List Int)} (hp : Prd pr) {t1 t2 : Tm} {th : List Int} (h : th ∈ allR pr t1 t2) : Fo pr th := by
  obtain ⟨h1, h2, _⟩ := (allTh_mem pr.length hp.pos _ (usR t1 t2) th rfl).mp h
  exact ⟨h1, h2⟩
theorem cV_dat (o : Option (List Int)) : isDat (cV o) = true := by cases o <;> exact id rfl
theorem rule_dat (t1 t2 : Tm) : dat 3 (.tup [t1.val, t2.val]) = true := dat_tup.mpr ⟨by simp, fun x hx => by
  simp at hx
  rcases hx with e | e <;> rw [e]
  · exact t1.dat
  · exact t2.dat⟩
theorem rule_is (t1 t2 : Tm) (h1 : t1.cnt ≤ 40) (h2 : t2.cnt ≤ 40) : isRule (.tup [t1.val, t2.val]) = true := by
  show (isTerm t1.val && isTerm t2.val) = true
  rw [t1.isTerm h1, t2.isTerm h2]
  rfl
/-! ### is_counter -/

theorem isW_int {v : Val} {lo hi : Int} (h : isW v lo hi = true) : ∃ i : Int, v = .int i ∧ lo ≤ i ∧ i ≤ hi := by
  cases v <;> first | (cases h; done) | skip
  unfold isW at h
  simp only [Bool.and_eq_true, decide_eq_true_eq] at h
  exact ⟨_, rfl, h.1, h.2⟩
theorem areTh_inv {many : Int} {v : Val} {lo hi : Int} (h : areTh many v lo hi = true) : ∃ l : List Int, v = rowV l ∧ Below many l ∧ lo ≤ l.length ∧ l.length ≤ hi := by
  unfold areTh at h
  rw [Bool.and_eq_true] at h
  obtain ⟨xs, rfl, h1, h2⟩ := isT_tup h.1
  have h3 := List.all_eq_true.mp h.2
  obtain ⟨l, hl, hb⟩ := ints_list (M := many) (ys := xs) fun y hy => by
    obtain ⟨i, e, a, b⟩ := isW_int (h3 y hy)
    exact ⟨i, e, a, by omega⟩
  subst hl
  rw [List.length_map] at h1 h2
  exact ⟨l, rfl, hb, h1, h2⟩
def thOf : Val → List Int
  | .tup xs => xs.map fun x => match x with
    | .int i => i
    | _ => 0
  | _ => []
theorem thOf_row (l : List Int) : thOf (rowV l) = l := by
  show (l.map Val.int).map _ = l
  rw [List.map_map]
  exact List.map_id' l
def bareB (us : List Bool) (th : List Int) : Bool := (us.zip th).all fun q => q.1 || q.2 == 0
def icB (pr : List (List Int)) (t1 t2 : Tm) (v : Val) : Bool := areTh pr.length v 4 4 && (bareB (usR t1 t2) (thOf v) && unl pr t1 t2 (thOf v))
theorem zipV_map {α β : Type} (f : α → Val) (g : β → Val) : ∀ (xs : List α) (ys : List β), zipV (xs.map f) (ys.map g) = (xs.zip ys).map fun q => .tup [f q.1, g q.2]
  | [], _ => rfl
  | _ :: _, [] => rfl
  | x :: xs, y :: ys => by
    show Val.tup [f x, g y] :: zipV (xs.map f) (ys.map g) = _
    rw [zipV_map f g xs ys]
    rfl
end Mp
namespace Mp

open PySem

theorem any_app {α : Type} (f : α → Bool) (a b : List α) : (a ++ b).any f = (a.any f || b.any f) := List.any_append
def four : List (Fin 4) := [0, 1, 2, 3]
theorem usR_map (t1 t2 : Tm) : usR t1 t2 = four.map (hasR t1 t2) := rfl
end Mp
namespace Mp

open PySem

theorem eraseIdx_mid {α : Type} : ∀ (pre : List α) (x : α) (post : List α), (pre ++ x :: post).eraseIdx pre.length = pre ++ post
  | [], x, post => rfl
  | a :: pre, x, post => by
    show a :: (pre ++ x :: post).eraseIdx pre.length = a :: (pre ++ post)
    rw [eraseIdx_mid pre x post]
theorem popAt_mid (pre : List Val) (x : Val) (post : List Val) (h : pre.length + post.length ≤ 1000) : popAtL (pre.length : Int) (.lst (pre ++ x :: post)) = some (x, .lst (pre ++ post)) := by
  show (if Nat.ble (pre ++ x :: post).length LIM then (match L2.ixN (pre ++ x :: post).length (pre.length : Int) with
    | some j => (match (pre ++ x :: post)[j]? with
      | some v => some (v, Val.lst ((pre ++ x :: post).eraseIdx j))
      | none => none)
    | none => none) else none) = _
  have e1 : L2.ixN (pre ++ x :: post).length (pre.length : Int) = some pre.length := by
    unfold L2.ixN
    rw [if_pos (by omega), if_pos (by rw [List.length_append, List.length_cons]; omega), Int.toNat_natCast]
  rw [if_pos (lim_le (by rw [List.length_append, List.length_cons]; omega)), e1]
  have e2 : (pre ++ x :: post)[pre.length]? = some x := by simp
  simp only [e2, eraseIdx_mid]
theorem bi_rgF (n : Nat) (h : n ≤ 100000) : bifn (.rg false) [.int n] = some (.lst ((natsI n).map .int)) := by
  show omap (rgMk false) (items .range [.int n]) = _
  rw [range_items n h, up_nats]
  rfl
theorem bi_rgT (n : Nat) (h : n ≤ 100000) : bifn (.rg true) [.int n] = some (rowV (natsI n)) := by
  show omap (rgMk true) (items .range [.int n]) = _
  rw [range_items n h, up_nats]
  rfl
theorem sp_law_order (n : Nat) (c : Val) (N : Nat) (hc : Cup c) (hN : N ≤ 64) : ∃ (row : List Int) (c' : Val), callF p (n + 2) i__law_order [c, .int N] = .ok (rowV row) [c'] ∧ Pm N row ∧ Cup c' := by
  rw [callF_succ, fn__law_order]
  suffices h : ∃ v outs, endO [1, 0] (exs (callF p (n + 1)) p__law_order.body [c, .int N, .undef, .undef]) = .ok v outs ∧ ∃ (row : List Int) (c' : Val), v = rowV row ∧ outs = [c'] ∧ Pm N row ∧ Cup c' by
    obtain ⟨v, outs, h, row, c', rfl, rfl, hp, hc'⟩ := h
    exact ⟨row, c', h, hp, hc'⟩
  refine call_wp ?_
  simp -implicitDefEqProofs [p__law_order, bi_rgF N (by omega)]
  refine WpO_seq ?_
  refine wp_whl (fun m e => ∃ (left found : List Int) (c : Val), e = [c, .int N, .lst (left.map .int), .lst (found.map .int)] ∧ m = left.length ∧ (found ++ left).Perm (natsI N) ∧ Cup c) ?_ _ N _ (by omega) ⟨natsI N, [], c, rfl, (natsI_len N).symm, List.Perm.refl _, hc⟩
  intro m e he
  obtain ⟨left, found, c1, he, hm, hp, hc1⟩ := he
  rw [he]
  clear he
  have hlen : found.length + left.length = N := by
    have := hp.length_eq
    rw [List.length_append, natsI_len] at this
    exact this
  obtain ⟨lv, hlv⟩ : ∃ lv, lv = left.map Val.int := ⟨_, rfl⟩
  obtain ⟨fv, hfv⟩ : ∃ fv, fv = found.map Val.int := ⟨_, rfl⟩
  have hll : lv.length = left.length := by rw [hlv, List.length_map]
  have hfl : fv.length = found.length := by rw [hfv, List.length_map]
  rw [← hlv, ← hfv]
  refine ⟨!lv.isEmpty, [c1, .int N, .lst lv, .lst fv], by simp -implicitDefEqProofs, fun hb => ?_, fun hb => ?_⟩
  · have he : left = [] := by
      cases left with
      | nil => rfl
      | cons => rw [hlv] at hb; cases hb
    subst he
    simp -implicitDefEqProofs
    exact ⟨found, by rw [hfv]; rfl, by rw [List.append_nil] at hp; exact hp, hc1⟩
  · have hpos : 1 ≤ left.length := by
      cases left with
      | nil => rw [hlv] at hb; cases hb
      | cons => simp
    obtain ⟨r, c2, e2, hr, hc2⟩ := sp_roll n c1 lv.length hc1 (by omega) (by omega)
    obtain ⟨pre, x, post, hsp, hpl⟩ := split_at (l := left) (a := r.toNat) (by omega)
    have hlv2 : lv = pre.map Val.int ++ Val.int x :: post.map Val.int := by rw [hlv, hsp]; simp
    have hll2 : pre.length + post.length + 1 = left.length := by rw [hsp]; simp; omega
    have hpop : popAtL r (.lst lv) = some (.int x, .lst ((pre ++ post).map .int)) := by
      have h1 := popAt_mid (pre.map Val.int) (.int x) (post.map Val.int) (by rw [List.length_map, List.length_map]; omega)
      rw [← hlv2, List.length_map, hpl] at h1
      rw [show ((r.toNat : Nat) : Int) = r by omega] at h1
      rw [h1, List.map_append]
    simp -implicitDefEqProofs [undefd_of hc1.dat, e2, hpop, appV_lst _ _ (le_LIM (show fv.length ≤ 100000 by omega))]
    refine ⟨pre.length + post.length, by omega, pre ++ post, found ++ [x], c2, ⟨rfl, by simp, by rw [hfv]; simp⟩, by simp, ?_, hc2⟩
    refine List.Perm.trans ?_ hp
    rw [hsp]
    simp only [List.append_assoc, List.singleton_append]
    exact List.Perm.append_left found List.perm_middle.symm
/-! ### tables as lists of lists -/

def lrow (l : List Int) : Val := .lst (l.map .int)
theorem at_lrow {m : List (List Int)} {a : Int} (h0 : 0 ≤ a) (h1 : a < m.length) : L2.atI (m.map lrow) a = some (lrow (rowAt m a)) := by
  rw [atI_map, atI_int h0 h1, rowAt]
  have h : a.toNat < m.length := by omega
  rw [List.getD_eq_getElem?_getD, List.getElem?_eq_getElem h]
  rfl
theorem onAt_set {n : Nat} {m : List (List Int)} (h : Sqr n m) {a b : Int} (v : Int) (ha : 0 ≤ a ∧ a < n) (hb : 0 ≤ b ∧ b < n) : onAt (.lst (m.map lrow)) a (fun z => setV z b (.int v)) = some (.lst ((setM m a b v).map lrow)) := by
  have hl : a < m.length := by rw [h.1]; exact ha.2
  have hr := h.2 _ (rowAt_mem ha.1 hl)
  have e1 : setV (lrow (rowAt m a)) b (.int v) = some (lrow ((rowAt m a).set b.toNat v)) := by
    show setV (.lst ((rowAt m a).map Val.int)) b (.int v) = _
    rw [setL_int _ hb.1 (by rw [List.length_map, hr]; exact hb.2)]
    show some (Val.lst _) = some (Val.lst _)
    rw [List.map_set]
  show (match L2.atI (m.map lrow) a with
    | some z => (match setV z b (.int v) with
      | some u => setV (.lst (m.map lrow)) a u
      | none => none)
    | none => none) = _
  rw [at_lrow ha.1 hl]
  simp only [e1]
  rw [setL_int _ ha.1 (by rw [List.length_map]; exact hl)]
  unfold setM
  rw [List.map_set]
theorem atThen_ok {m : List (List Int)} {a : Int} (h0 : 0 ≤ a) (h1 : a < m.length) (r : O) : atThenO (.lst (m.map lrow)) a r = r := by
  show (match L2.atI (m.map lrow) a with
    | some _ => r
    | none => .bad) = r
  rw [at_lrow h0 h1]
theorem sp_law_led (n : Nat) {pr : List (List Int)} (hp : Prd pr) {row : List Int} (hr : Pm pr.length row) : callF p (n + 1) i__law_led [prV pr, rowV row] = .ok (prV (ledP pr row)) [] := by
  rw [callF_succ, fn__law_led]
  suffices q : ∃ w outs, endO [0, 0] (exs (callF p n) p__law_led.body [prV pr, rowV row, .undef, .undef, .undef, .undef, .undef, .undef]) = .ok w outs ∧ (outs = [] ∧ w = prV (ledP pr row)) by
    obtain ⟨w, outs, q, rfl, rfl⟩ := q
    exact q
  refine call_wp ?_
  have hM := hp.pos
  have hM8 := hp.le
  obtain ⟨N, hN⟩ : ∃ N, N = pr.length := ⟨_, rfl⟩
  have hrl := hr.len
  rw [← hN] at hr hrl hM hM8
  have hri := range_items N (by omega)
  have hz : compN (.one 4) (testOf (evs (callF p n) [])) (ev (callF p n) (.bin .mul (.lst [(.int 0)]) (.var 2))) (upFrom 0 N) [prV pr, rowV row, .int N, .undef, .undef, .undef, .undef, .undef] = .ok ((List.replicate N (List.replicate N (0 : Int))).map lrow) [prV pr, rowV row, .int N, .undef, .undef, .undef, .undef, .undef] := by
    rw [comp_range (fun _ => lrow (List.replicate N 0)) N fun i hi => ?_]
    · have e : (List.range N).map (fun _ => lrow (List.replicate N 0)) = (List.replicate N (List.replicate N (0 : Int))).map lrow := by
        rw [List.map_replicate, List.map_const', List.length_range]
      rw [e]
    · refine ⟨_, rfl, rfl, ?_⟩
      simp -implicitDefEqProofs [bMul_rep (.int 0) N (by omega), lrow]
  simp -implicitDefEqProofs only [p__law_led]
  rw [exs_cons]
  have s0 : ex (callF p n) (.asg 2 0 (.bi .len [(.var 0)])) [prV pr, rowV row, .undef, .undef, .undef, .undef, .undef, .undef] = .nx [prV pr, rowV row, .int N, .undef, .undef, .undef, .undef, .undef] := by
    simp -implicitDefEqProofs [undefd_pr, len_pr, hN]
  rw [s0, seqO_nx, exs_cons]
  have s1 : ex (callF p n) (.asg 3 2 (.comp (.one 4) .range [(.var 2)] [] (.bin .mul (.lst [(.int 0)]) (.var 2)))) [prV pr, rowV row, .int N, .undef, .undef, .undef, .undef, .undef] = .nx [prV pr, rowV row, .int N, .lst ((List.replicate N (List.replicate N (0 : Int))).map lrow), .undef, .undef, .undef, .undef] := by
    obtain ⟨z, hzz⟩ : ∃ z, z = (List.replicate N (List.replicate N (0 : Int))).map lrow := ⟨_, rfl⟩
    rw [← hzz] at hz ⊢
    simp -implicitDefEqProofs [hri, upFrom_len2, lim_le (show N ≤ 100000 by omega), hz]
  rw [s1, seqO_nx, exs_cons]
  have hsq0 : Sqr N (List.replicate N (List.replicate N (0 : Int))) := ⟨List.length_replicate, fun r hr => by rw [List.eq_of_mem_replicate hr, List.length_replicate]⟩
  refine WpO_seq ?_
  rw [ex_loop, xLoop_eq]
  simp -implicitDefEqProofs only [evs_cons, evs_nil, vCons_eq, kCons_eq, kCons2_eq, kLoop_eq, ev_var, vVar_eq, gt_succ, gt_zero, undefd_int, bindR_ok, bindO_ok, hri, forI_some]
  refine wp_range (fun i e => ∃ M : List (List Int), e = [prV pr, rowV row, .int N, .lst (M.map lrow), .undef, .undef, .undef, .undef] ∧ Sqr N M ∧ ∀ a b : Nat, a < i → b < N → mul M (entAt row a) (entAt row b) = entAt row (mul pr a b)) ?_ ?_ ⟨_, rfl, hsq0, fun a b h => absurd h (Nat.not_lt_zero _)⟩
  · intro e he
    obtain ⟨M, he, hsq, hent⟩ := he
    rw [he]
    have hfin : M = ledP pr row := by
      have hs2 := tab_sqr N fun a b => entAt row (mul pr (inv row a) (inv row b))
      have el : ledP pr row = tab N fun a b => entAt row (mul pr (inv row a) (inv row b)) := by rw [hN]; rfl
      rw [el]
      refine sqr_ext hsq hs2 fun i j hi hj => ?_
      rw [mul_tab hi hj]
      have i1 := hr.inv_lt (a := (i : Int)) ⟨by omega, by omega⟩
      have j1 := hr.inv_lt (a := (j : Int)) ⟨by omega, by omega⟩
      have := hent (inv row i).toNat (inv row j).toNat (by omega) (by omega)
      rw [show (((inv row i).toNat : Nat) : Int) = inv row i by omega, show (((inv row j).toNat : Nat) : Int) = inv row j by omega, hr.ent_inv ⟨by omega, by omega⟩, hr.ent_inv ⟨by omega, by omega⟩] at this
      exact this
    have hml := hsq.1
    have hit : items .plain [.lst (M.map lrow)] = some (M.map lrow) := rfl
    obtain ⟨mv, hmv⟩ : ∃ mv, mv = M.map lrow := ⟨_, rfl⟩
    have hmvl : mv.length ≤ 100000 := by rw [hmv, List.length_map]; omega
    rw [← hmv] at hit ⊢
    simp -implicitDefEqProofs [hit, lim_le hmvl]
    rw [hmv, comp_list lrow rowV M fun r hr => ?_]
    · simp -implicitDefEqProofs
      rw [← hfin]
      rfl
    · refine ⟨_, rfl, rfl, ?_⟩
      simp -implicitDefEqProofs [lrow, rowV]
  · intro i e hi he
    obtain ⟨M, he, hsq, hent⟩ := he
    rw [he]
    clear he
    refine ⟨_, rfl, ?_⟩
    simp only [Int.zero_add, st_succ, st_zero]
    rw [exs_cons]
    refine WpO_seq ?_
    rw [ex_loop, xLoop_eq]
    simp -implicitDefEqProofs only [evs_cons, evs_nil, vCons_eq, kCons_eq, kCons2_eq, kLoop_eq, ev_var, vVar_eq, gt_succ, gt_zero, undefd_int, bindR_ok, bindO_ok, hri, forI_some]
    refine wp_range (fun j e => ∃ M : List (List Int), e = [prV pr, rowV row, .int N, .lst (M.map lrow), .undef, .int i, .undef, .undef] ∧ Sqr N M ∧ ∀ a b : Nat, b < N → (a < i ∨ (a = i ∧ b < j)) → mul M (entAt row a) (entAt row b) = entAt row (mul pr a b)) ?_ ?_ ⟨M, rfl, hsq, fun a b hb q => hent a b (by omega) hb⟩
    · intro e he
      obtain ⟨M2, he, hsq2, hent2⟩ := he
      rw [he]
      simp -implicitDefEqProofs
      exact ⟨M2, rfl, hsq2, fun a b ha hb => hent2 a b hb (by omega)⟩
    · intro j e hj he
      obtain ⟨M2, he, hsq2, hent2⟩ := he
      rw [he]
      clear he
      refine ⟨_, rfl, ?_⟩
      simp only [Int.zero_add, st_succ, st_zero]
      have hi' : (0 : Int) ≤ i ∧ (i : Int) < pr.length := ⟨by omega, by omega⟩
      have hj' : (0 : Int) ≤ j ∧ (j : Int) < pr.length := ⟨by omega, by omega⟩
      have hm := hp.mul hi' hj'
      have ri := hr.ent (i := (i : Int)) ⟨by omega, by omega⟩
      have rj := hr.ent (i := (j : Int)) ⟨by omega, by omega⟩
      have xi : idxV (rowV row) (.int i) = some (.int (entAt row i)) := idx_row (by omega) (by omega)
      have xj : idxV (rowV row) (.int j) = some (.int (entAt row j)) := idx_row (by omega) (by omega)
      have xm : idxV (rowV row) (.int (mul pr i j)) = some (.int (entAt row (mul pr i j))) := idx_row (by omega) (by omega)
      have hset := onAt_set hsq2 (entAt row (mul pr i j)) ri rj
      have hthen := fun r => atThen_ok (m := M2) ri.1 (by rw [hsq2.1]; exact ri.2) r
      obtain ⟨mv, hmv⟩ : ∃ mv, mv = M2.map lrow := ⟨_, rfl⟩
      rw [← hmv] at hset hthen ⊢
      simp -implicitDefEqProofs [undefd_pr, undefd_row, xi, xj, xm, idx_pr hi'.1 hi'.2, hp.at2 hi' hj', hthen, hset]
      refine ⟨setM M2 (entAt row i) (entAt row j) (entAt row (mul pr i j)), rfl, setM_sqr hsq2 ri, fun a b hb q => ?_⟩
      have ha : (a : Int) < N := by omega
      rw [mul_setM hsq2 ri rj (hr.ent ⟨by omega, ha⟩) (hr.ent ⟨by omega, by omega⟩)]
      by_cases q2 : entAt row i = entAt row a ∧ entAt row j = entAt row b
      · rw [if_pos q2]
        have e1 := hr.inv_ent (i := (i : Int)) ⟨by omega, by omega⟩
        have e2 := hr.inv_ent (i := (a : Int)) ⟨by omega, ha⟩
        have e3 := hr.inv_ent (i := (j : Int)) ⟨by omega, by omega⟩
        have e4 := hr.inv_ent (i := (b : Int)) ⟨by omega, by omega⟩
        rw [q2.1, e2] at e1
        rw [q2.2, e4] at e3
        rw [e1, e3]
      · rw [if_neg q2]
        refine hent2 a b hb ?_
        rcases q with q | ⟨q, q'⟩
        · exact .inl q
        · by_cases h : b = j
          · subst h; subst q; exact absurd ⟨rfl, rfl⟩ q2
          · exact .inr ⟨q, by omega⟩
end Mp
namespace Mp

open PySem

theorem allFlat_ints : ∀ l : List Int, allFlat (l.map .int) = true
  | [] => rfl
  | x :: l => by
    show (flat (.int x) && allFlat (l.map .int)) = true
    rw [allFlat_ints l]
    rfl
theorem findEq_ints (a : Int) : ∀ (l : List Int) (n : Nat), a ∈ l → findEq (.int a) (l.map .int) n = some (n + l.idxOf a)
  | [], n, h => nomatch h
  | y :: l, n, h => by
    show (if eqv (.int y) (.int a) then some n else findEq (.int a) (l.map .int) (n + 1)) = _
    have e : eqv (.int y) (.int a) = (y == a) := by rw [eqv]
    rw [e, List.idxOf_cons]
    cases hy : y == a with
    | true => rw [if_pos rfl]; rfl
    | false =>
      rw [if_neg Bool.false_ne_true]
      have hm : a ∈ l := by
        rcases List.mem_cons.mp h with q | q
        · rw [q, beq_self_eq_true] at hy; cases hy
        · exact q
      rw [findEq_ints a l (n + 1) hm]
      show some (n + 1 + l.idxOf a) = some (n + (l.idxOf a + 1))
      congr 1
      omega
theorem idx_of_row {l : List Int} {a : Int} (h : a ∈ l) : meth .index (rowV l) [.int a] = some (.int (inv l a)) := by
  show (if flat (.int a) && allFlat (l.map .int) then (findEq (.int a) (l.map .int) 0).map fun n => Val.int n else _) = _
  rw [allFlat_ints, findEq_ints a l 0 h]
  show some (Val.int ((0 + l.idxOf a : Nat) : Int)) = _
  rw [Nat.zero_add]
  rfl
theorem seqThen_row (l : List Int) (r : R Val) : seqThen (rowV l) r = r := rfl
theorem seqThen_pr (l : List (List Int)) (r : R Val) : seqThen (prV l) r = r := rfl
theorem led_eq (pr : List (List Int)) (row : List Int) : ((natsI pr.length).map (inv row)).map (fun a => ((natsI pr.length).map (inv row)).map fun b => entAt row (mul pr a b)) = ledP pr row := by
  unfold ledP tab
  rw [List.map_map]
  apply List.map_congr_left
  intro a _
  show ((natsI pr.length).map (inv row)).map _ = _
  rw [List.map_map]
  rfl
theorem sp_led_in (n : Nat) {pr : List (List Int)} (hp : Prd pr) {row : List Int} (hr : Pm pr.length row) : callF p (n + 1) i_led_in [prV pr, rowV row] = .ok (prV (ledP pr row)) [] := by
  rw [callF_succ, fn_led_in]
  have hM := hp.pos
  have hM8 := hp.le
  have hrl := hr.len
  have hri := range_items pr.length (by omega)
  obtain ⟨bk, hbk⟩ : ∃ bk, bk = (natsI pr.length).map (inv row) := ⟨_, rfl⟩
  have hbl : bk.length = pr.length := by rw [hbk, List.length_map, natsI_len]
  have hbm : ∀ x, x ∈ bk → 0 ≤ x ∧ x < pr.length := fun x hx => by
    rw [hbk] at hx
    obtain ⟨a, ha, rfl⟩ := List.mem_map.mp hx
    exact hr.inv_lt (natsI_mem.mp ha)
  have hled := led_eq pr row
  rw [← hbk] at hled
  have hc1 : compN (.one 3) (testOf (evs (callF p n) [])) (ev (callF p n) (.me .index (.var 1) [(.var 3)])) (upFrom 0 pr.length) [prV pr, rowV row, .undef, .undef, .undef, .undef] = .ok (bk.map .int) [prV pr, rowV row, .undef, .undef, .undef, .undef] := by
    rw [up_nats, comp_list Val.int (fun a => .int (inv row a)) _ fun a ha => ?_]
    · rw [hbk, List.map_map]
      rfl
    · refine ⟨_, rfl, rfl, ?_⟩
      simp -implicitDefEqProofs [undefd_row, seqThen_row, idx_of_row (hr.mem.mpr (natsI_mem.mp ha))]
  obtain ⟨bv, hbv⟩ : ∃ bv, bv = bk.map Val.int := ⟨_, rfl⟩
  have hbvl : bv.length ≤ 100000 := by rw [hbv, List.length_map]; omega
  rw [← hbv] at hc1
  simp -implicitDefEqProofs [runFn, p_led_in, undefd_pr, len_pr, hri, upFrom_len2, lim_le (show pr.length ≤ 100000 by omega), hc1, lim_le hbvl]
  rw [hbv, comp_list Val.int (fun a => rowV (bk.map fun b => entAt row (mul pr a b))) bk fun a ha => ?_]
  · simp -implicitDefEqProofs
    rw [← hled]
    simp [prV]
  · refine ⟨_, rfl, rfl, ?_⟩
    have a1 := hbm a ha
    rw [← hbv]
    simp -implicitDefEqProofs [lim_le hbvl]
    rw [hbv, comp_list Val.int (fun b => .int (entAt row (mul pr a b))) bk fun b hb => ?_]
    · simp -implicitDefEqProofs [rowV]
    · refine ⟨_, rfl, rfl, ?_⟩
      have b1 := hbm b hb
      have m1 := hp.mul a1 b1
      simp -implicitDefEqProofs [undefd_pr, undefd_row, idx_pr a1.1 a1.2, hp.at2 a1 b1, idx_row m1.1 (show mul pr a b < row.length by omega)]
/-! ### rows judged -/

theorem intsV_ints : ∀ l : List Int, intsV (l.map .int) = some l
  | [] => rfl
  | x :: l => by
    show (intsV (l.map .int)).map (x :: ·) = _
    rw [intsV_ints l]
    rfl
theorem eqvs_map {α : Type} [BEq α] (f : α → Val) (h : ∀ x y, eqv (f x) (f y) = (x == y)) : ∀ xs ys : List α, eqvs (xs.map f) (ys.map f) = (xs == ys)
  | [], [] => by simp [eqvs]
  | [], _ :: _ => by simp [eqvs]
  | _ :: _, [] => by simp [eqvs]
  | x :: xs, y :: ys => by
    rw [List.map_cons, List.map_cons, eqvs, h, eqvs_map f h xs ys]
    rfl
theorem eqv_int (x y : Int) : eqv (.int x) (.int y) = (x == y) := by rw [eqv]
theorem eqv_row (x y : List Int) : eqv (rowV x) (rowV y) = (x == y) := by
  unfold rowV
  rw [eqv]
  exact eqvs_map Val.int eqv_int x y
theorem eqv_pr (x y : List (List Int)) : eqv (prV x) (prV y) = (x == y) := by
  unfold prV
  rw [eqv]
  exact eqvs_map rowV eqv_row x y
theorem cEq_ints (x y : List Int) : cEq (.lst (x.map .int)) (.lst (y.map .int)) = some (x == y) := by
  rw [cEq_of _ _ (id rfl) (id rfl) (.inl (by show deps (x.map .int) + 1 ≤ 190; rw [deps_ints]; omega)), eqv]
  congr 1
  exact eqvs_map Val.int eqv_int x y
theorem cEq_pr (x y : List (List Int)) : cEq (prV x) (prV y) = some (x == y) := by
  rw [cEq_of _ _ (id rfl) (id rfl) (.inl (Nat.le_trans (dep_pr x) (by omega))), eqv_pr]
def isPm (N : Nat) (v : Val) : Bool := areTh N v N N && (sortI (thOf v) == natsI N)
theorem isPm_row {N : Nat} {l : List Int} : isPm N (rowV l) = true ↔ Pm N l := by
  unfold isPm
  rw [Bool.and_eq_true, thOf_row, beq_iff_eq]
  constructor
  · intro h
    have := sortI_perm l
    rw [h.2] at this
    exact this.symm
  · intro h
    refine ⟨areTh_row h.below (by rw [h.len]; omega) (by rw [h.len]; omega), ?_⟩
    exact (sortI_of (List.Perm.symm h) (natsI_sorted N)).symm
theorem isPm_inv {N : Nat} {v : Val} (h : isPm N v = true) : ∃ l, v = rowV l ∧ Pm N l := by
  have h1 := (Bool.and_eq_true_iff.mp h).1
  obtain ⟨l, rfl, _⟩ := areTh_inv h1
  exact ⟨l, rfl, isPm_row.mp h⟩
theorem sp_fits_row (n m N : Nat) (hN : N ≤ 64) (v : Val) (hv : dat m v = true) : callF p (n + 4) i_fits_row [.int N, v] = .ok (.bl (isPm N v)) [] := by
  rw [callF_succ, fn_fits_row]
  have a1 := sp_are_things n m N N N v hv (by omega)
  have hvd := dat_isDat hv
  cases hA : areTh N v N N with
  | false =>
    rw [hA] at a1
    have e : isPm N v = false := by unfold isPm; rw [hA]; rfl
    simp -implicitDefEqProofs [runFn, p_fits_row, undefd_of hvd, a1, e]
  | true =>
    rw [hA] at a1
    obtain ⟨l, rfl, hb, _⟩ := areTh_inv hA
    have e : isPm N (rowV l) = (sortI l == natsI N) := by unfold isPm; rw [hA, thOf_row]; rfl
    have hs : bifn .sorted [rowV l] = some (.lst ((sortI l).map .int)) := by
      show sortX (rowV l) = _
      unfold sortX
      rw [show seqOf (rowV l) = some (l.map Val.int) from rfl, obind_some, intsV_ints]
    have hc := cEq_ints (sortI l) (natsI N)
    have hg := bi_rgF N (by omega)
    obtain ⟨x1, hx1⟩ : ∃ x, x = (sortI l).map Val.int := ⟨_, rfl⟩
    obtain ⟨x2, hx2⟩ : ∃ x, x = (natsI N).map Val.int := ⟨_, rfl⟩
    rw [← hx1] at hs hc
    rw [← hx2] at hg hc
    simp -implicitDefEqProofs [runFn, p_fits_row, undefd_row, a1, hs, hg, hc, e]
def isLk (pr ot : List (List Int)) (v : Val) : Bool := pr.length == ot.length && (isPm pr.length v && (ledP pr (thOf v) == ot))
theorem sp_led_product (n : Nat) {pr : List (List Int)} (hp : Prd pr) {row : List Int} (hr : Pm pr.length row) : callF p (n + 6) i_led_product [prV pr, rowV row] = .ok (prV (ledP pr row)) [] := by
  rw [callF_succ, fn_led_product]
  have h8 := hp.le
  have hl := hr.len
  have a1 := sp_need_product n 8 _ hp.dat hp.is
  have a2 := sp_fits_row (n + 1) 64 pr.length (by omega) (rowV row) (row_dat row 64 (by omega))
  rw [isPm_row.mpr hr] at a2
  have a3 := sp_led_in (n + 4) hp hr
  simp -implicitDefEqProofs [runFn, p_led_product, undefd_pr, undefd_row, len_pr, a1, a2, a3]
end Mp
set_option Elab.async false
set_option linter.all false
set_option maxRecDepth 100000
/-! # things that meet, in plain -/
namespace Mp
open PySem
def metB (pr : List (List Int)) (a b : Int) : Bool := mul pr a b == mul pr b a
def metRow (pr : List (List Int)) (t : Int) : List Int := (natsI pr.length).filter (metB pr t)
def nPairs (pr : List (List Int)) : Int := ((natsI pr.length).map fun t => ((metRow pr t).length : Int)).sum
def allMet (pr : List (List Int)) (l : List Int) : Bool := l.all fun t => l.all fun o => metB pr t o
def stepA (f : List (List Int)) (t : Int) : List (List Int) := f ++ f.map (· ++ [t])
def lotsA (ts : List Int) : List (List Int) := ts.foldl stepA [[]]
def stepM (pr : List (List Int)) (f : List (List Int)) (t : Int) : List (List Int) := f ++ (f.filter fun l => allMet pr (l ++ [t])).map (· ++ [t])
def lotsM (pr : List (List Int)) (ts : List Int) : List (List Int) := ts.foldl (stepM pr) [[]]
def canAdd (pr : List (List Int)) (l : List Int) (t : Int) : Bool := !(l.contains t) && allMet pr (l ++ [t])
def fullB (pr : List (List Int)) (l : List Int) : Bool := ((natsI pr.length).filter (canAdd pr l)).isEmpty
def fullL (pr : List (List Int)) : List (List Int) := (lotsM pr (natsI pr.length)).filter (fullB pr)
theorem metB_symm (pr : List (List Int)) (a b : Int) : metB pr a b = metB pr b a := by
  unfold metB
  rw [Bool.eq_iff_iff, beq_iff_eq, beq_iff_eq]
  exact ⟨Eq.symm, Eq.symm⟩
theorem metB_self (pr : List (List Int)) (a : Int) : metB pr a a = true := by simp [metB]
theorem allMet_iff {pr : List (List Int)} {l : List Int} : allMet pr l = true ↔ ∀ a, a ∈ l → ∀ b, b ∈ l → metB pr a b = true := by
  unfold allMet
  simp only [List.all_eq_true]
theorem allMet_snoc {pr : List (List Int)} {l : List Int} {t : Int} : allMet pr (l ++ [t]) = true ↔ allMet pr l = true ∧ ∀ b, b ∈ l → metB pr t b = true := by
  rw [allMet_iff, allMet_iff]
  constructor
  · intro h
    exact ⟨fun a ha b hb => h a (by simp [ha]) b (by simp [hb]), fun b hb => h t (by simp) b (by simp [hb])⟩
  · intro ⟨h1, h2⟩ a ha b hb
    rcases List.mem_append.mp ha with ha | ha <;> rcases List.mem_append.mp hb with hb | hb
    · exact h1 a ha b hb
    · rw [List.mem_singleton.mp hb, metB_symm]; exact h2 a ha
    · rw [List.mem_singleton.mp ha]; exact h2 b hb
    · rw [List.mem_singleton.mp ha, List.mem_singleton.mp hb]; exact metB_self pr t
theorem stepM_filter (pr : List (List Int)) (f : List (List Int)) (t : Int) : stepM pr (f.filter (allMet pr)) t = (stepA f t).filter (allMet pr) := by
  unfold stepM stepA
  rw [List.filter_append, List.filter_map, List.filter_filter]
  congr 2
  apply List.filter_congr
  intro l _
  show (allMet pr (l ++ [t]) && allMet pr l) = allMet pr (l ++ [t])
  cases h : allMet pr (l ++ [t]) with
  | false => rfl
  | true => rw [(allMet_snoc.mp h).1]; rfl
theorem lotsM_fold (pr : List (List Int)) : ∀ (ts : List Int) (f : List (List Int)), ts.foldl (stepM pr) (f.filter (allMet pr)) = (ts.foldl stepA f).filter (allMet pr)
  | [], f => rfl
  | t :: ts, f => by
    rw [List.foldl_cons, List.foldl_cons, stepM_filter, lotsM_fold pr ts]
theorem lotsM_eq (pr : List (List Int)) (ts : List Int) : lotsM pr ts = (lotsA ts).filter (allMet pr) := lotsM_fold pr ts [[]]
theorem natsI_succ (n : Nat) : natsI (n + 1) = natsI n ++ [(n : Int)] := by
  unfold natsI
  rw [List.range_succ, List.map_append]
  rfl
theorem lotsA_succ (n : Nat) : lotsA (natsI (n + 1)) = lotsA (natsI n) ++ (lotsA (natsI n)).map (· ++ [(n : Int)]) := by
  unfold lotsA
  rw [natsI_succ, List.foldl_append]
  rfl
theorem lotsA_len : ∀ n : Nat, (lotsA (natsI n)).length = 2 ^ n
  | 0 => rfl
  | n + 1 => by
    rw [lotsA_succ, List.length_append, List.length_map, lotsA_len n, Nat.pow_succ]
    omega
theorem mem_lotsA : ∀ (n : Nat) (l : List Int), l ∈ lotsA (natsI n) ↔ l.Sublist (natsI n)
  | 0, l => by
    show l ∈ [[]] ↔ l.Sublist []
    rw [List.mem_singleton, List.sublist_nil]
  | n + 1, l => by
    rw [lotsA_succ, natsI_succ, List.sublist_append_iff, List.mem_append, List.mem_map]
    constructor
    · rintro (h | ⟨a, ha, e⟩)
      · exact ⟨l, [], (List.append_nil l).symm, (mem_lotsA n l).mp h, List.nil_sublist _⟩
      · exact ⟨a, [(n : Int)], e.symm, (mem_lotsA n a).mp ha, List.Sublist.refl _⟩
    · rintro ⟨l1, l2, e, h1, h2⟩
      cases h2 with
      | cons _ h =>
        left
        rw [e, List.sublist_nil.mp h, List.append_nil]
        exact (mem_lotsA n l1).mpr h1
      | cons_cons _ h =>
        right
        exact ⟨l1, (mem_lotsA n l1).mpr h1, by rw [e, List.sublist_nil.mp h]⟩
theorem lotsA_nodup : ∀ n : Nat, (lotsA (natsI n)).Nodup
  | 0 => by show ([[]] : List (List Int)).Nodup; simp
  | n + 1 => by
    rw [lotsA_succ]
    refine List.nodup_append.mpr ⟨lotsA_nodup n, ?_, fun a ha b hb e => ?_⟩
    · rw [List.Nodup, List.pairwise_map]
      exact (lotsA_nodup n).imp fun h e => h (List.append_cancel_right e)
    · obtain ⟨c, hc, rfl⟩ := List.mem_map.mp hb
      have h1 := (mem_lotsA n a).mp ha
      rw [e] at h1
      have := natsI_mem.mp (h1.subset (List.mem_append_right c (List.mem_singleton.mpr rfl)))
      omega
theorem lot_below {n : Nat} {l : List Int} (h : l ∈ lotsA (natsI n)) : Below n l := fun x hx => natsI_mem.mp (((mem_lotsA n l).mp h).subset hx)
theorem lot_srt {n : Nat} {l : List Int} (h : l ∈ lotsA (natsI n)) : l.Pairwise (· < ·) := by
  have : (natsI n).Pairwise (· < ·) := by
    unfold natsI
    rw [List.pairwise_map]
    exact List.pairwise_lt_range.imp fun {a b} h => by omega
  exact this.sublist ((mem_lotsA n l).mp h)
theorem lot_len {n : Nat} {l : List Int} (h : l ∈ lotsA (natsI n)) : l.length ≤ n := by
  have := ((mem_lotsA n l).mp h).length_le
  rwa [natsI_len] at this
/-! ### the same pairs meet -/
theorem allMet_congr {p q : List (List Int)} {n : Nat} (h : ∀ a b : Int, (0 ≤ a ∧ a < n) → (0 ≤ b ∧ b < n) → metB p a b = metB q a b) {l : List Int} (hl : Below n l) : allMet p l = allMet q l := by
  rw [Bool.eq_iff_iff, allMet_iff, allMet_iff]
  exact ⟨fun z a ha b hb => by rw [← h a b (hl a ha) (hl b hb)]; exact z a ha b hb, fun z a ha b hb => by rw [h a b (hl a ha) (hl b hb)]; exact z a ha b hb⟩
theorem below_snoc {n : Nat} {l : List Int} {t : Int} (h : Below n l) (ht : 0 ≤ t ∧ t < n) : Below n (l ++ [t]) := fun x hx => by
  rcases List.mem_append.mp hx with hx | hx
  · exact h x hx
  · rw [List.mem_singleton.mp hx]; exact ht
theorem fullB_congr {p q : List (List Int)} (hn : p.length = q.length) (h : ∀ a b : Int, (0 ≤ a ∧ a < p.length) → (0 ≤ b ∧ b < p.length) → metB p a b = metB q a b) {l : List Int} (hl : Below p.length l) : fullB p l = fullB q l := by
  unfold fullB
  rw [← hn]
  congr 1
  apply List.filter_congr
  intro t ht
  unfold canAdd
  rw [allMet_congr h (below_snoc hl (natsI_mem.mp ht))]
theorem fullL_congr {p q : List (List Int)} (hn : p.length = q.length) (h : ∀ a b : Int, (0 ≤ a ∧ a < p.length) → (0 ≤ b ∧ b < p.length) → metB p a b = metB q a b) : fullL p = fullL q := by
  unfold fullL
  rw [lotsM_eq, lotsM_eq, ← hn]
  have e : (lotsA (natsI p.length)).filter (allMet p) = (lotsA (natsI p.length)).filter (allMet q) := List.filter_congr fun l hl => allMet_congr h (lot_below hl)
  rw [e]
  exact List.filter_congr fun l hl => fullB_congr hn h (lot_below (List.mem_filter.mp hl).1)
/-! ### the law's words -/
theorem full_nil {pr : List (List Int)} (hp : Prd pr) : fullB pr [] = false := by
  unfold fullB
  have h0 : (0 : Int) ∈ (natsI pr.length).filter (canAdd pr []) := by
    rw [List.mem_filter]
    refine ⟨natsI_mem.mpr ⟨Int.le_refl 0, by have := hp.pos; omega⟩, ?_⟩
    simp [canAdd, allMet, metB]
  cases h : (natsI pr.length).filter (canAdd pr []) with
  | nil => rw [h] at h0; cases h0
  | cons _ _ => rfl
def goodB (pr : List (List Int)) (l : List Int) : Bool := !l.isEmpty && allMet pr l
def goodL (pr : List (List Int)) : List (List Int) := (lotsA (natsI pr.length)).filter (goodB pr)
def fullB2 (pr : List (List Int)) (l : List Int) : Bool := ((natsI pr.length).filter fun t => !(l.contains t) && (l.filter fun o => !((metRow pr t).contains o)).isEmpty).isEmpty
theorem fullB2_eq {pr : List (List Int)} {l : List Int} (hl : Below pr.length l) (hm : allMet pr l = true) : fullB2 pr l = fullB pr l := by
  unfold fullB2 fullB
  congr 1
  apply List.filter_congr
  intro t ht
  unfold canAdd
  congr 1
  rw [Bool.eq_iff_iff, allMet_snoc, List.isEmpty_iff, List.filter_eq_nil_iff]
  constructor
  · intro h
    refine ⟨hm, fun b hb => ?_⟩
    have := h b hb
    simp only [Bool.not_eq_true', Bool.not_eq_false] at this
    exact (List.mem_filter.mp (List.contains_iff_mem.mp this)).2
  · intro ⟨_, h⟩ b hb
    simp only [Bool.not_eq_true', Bool.not_eq_false]
    exact List.contains_iff_mem.mpr (List.mem_filter.mpr ⟨natsI_mem.mpr (hl b hb), h b hb⟩)
theorem full_law {pr : List (List Int)} (hp : Prd pr) : (goodL pr).filter (fullB2 pr) = fullL pr := by
  unfold goodL fullL
  rw [lotsM_eq, List.filter_filter, List.filter_filter]
  apply List.filter_congr
  intro l hl
  unfold goodB
  cases hm : allMet pr l with
  | false => rw [Bool.and_false, Bool.and_false, Bool.and_false]
  | true =>
    rw [fullB2_eq (lot_below hl) hm, Bool.and_true, Bool.and_true]
    cases l with
    | nil => rw [full_nil hp]; rfl
    | cons _ _ => exact Bool.and_true _
end Mp
set_option Elab.async false
set_option linter.all false
set_option maxRecDepth 100000
/-! # things that meet, named anew -/
namespace Mp
open PySem
theorem metB_led {pr : List (List Int)} {row : List Int} (hr : Pm pr.length row) {a b : Int} (ha : 0 ≤ a ∧ a < pr.length) (hb : 0 ≤ b ∧ b < pr.length) (hp : Prd pr) : metB (ledP pr row) (entAt row a) (entAt row b) = metB pr a b := by
  unfold metB
  rw [mul_led (hr.ent ha) (hr.ent hb), mul_led (hr.ent hb) (hr.ent ha), hr.inv_ent ha, hr.inv_ent hb, Bool.eq_iff_iff, beq_iff_eq, beq_iff_eq]
  constructor
  · intro h
    have := congrArg (inv row) h
    rwa [hr.inv_ent (hp.mul ha hb), hr.inv_ent (hp.mul hb ha)] at this
  · intro h
    rw [h]
theorem row_ents {n : Nat} {row : List Int} (hr : Pm n row) : (natsI n).map (entAt row) = row := by
  apply List.ext_getElem
  · rw [List.length_map, natsI_len, hr.len]
  · intro i h1 h2
    rw [List.getElem_map, natsI_getE, entAt_nat' h2]
theorem sum_perm {l m : List Int} (h : l.Perm m) : l.sum = m.sum := by
  induction h with
  | nil => rfl
  | cons x _ ih => rw [List.sum_cons, List.sum_cons, ih]
  | swap x y l => rw [List.sum_cons, List.sum_cons, List.sum_cons, List.sum_cons]; omega
  | trans _ _ h1 h2 => rw [h1, h2]
theorem nPairs_led {pr : List (List Int)} {row : List Int} (hp : Prd pr) (hr : Pm pr.length row) : nPairs (ledP pr row) = nPairs pr := by
  unfold nPairs
  have hl := ledP_len pr row
  rw [hl]
  have h1 : ((natsI pr.length).map fun t => ((metRow (ledP pr row) t).length : Int)).Perm (row.map fun t => ((metRow (ledP pr row) t).length : Int)) := (List.Perm.symm hr).map _
  rw [sum_perm h1]
  congr 1
  rw [← row_ents hr, List.map_map, row_ents hr]
  apply List.map_congr_left
  intro t ht
  have ht := natsI_mem.mp ht
  show ((metRow (ledP pr row) (entAt row t)).length : Int) = _
  congr 1
  unfold metRow
  rw [hl]
  have h2 : ((natsI pr.length).filter (metB (ledP pr row) (entAt row t))).Perm (row.filter (metB (ledP pr row) (entAt row t))) := (List.Perm.symm hr).filter _
  rw [h2.length_eq, ← row_ents hr, row_ents hr]
  have e : row.filter (metB (ledP pr row) (entAt row t)) = ((natsI pr.length).filter (metB pr t)).map (entAt row) := by
    have : (natsI pr.length).filter (metB pr t) = (natsI pr.length).filter (metB (ledP pr row) (entAt row t) ∘ entAt row) := by
      apply List.filter_congr
      intro o ho
      exact (metB_led hr ht (natsI_mem.mp ho) hp).symm
    rw [this, ← List.filter_map, row_ents hr]
  rw [e, List.length_map]
/-! ### lots moved -/
def mov (n : Nat) (f : Int → Int) (l : List Int) : List Int := (natsI n).filter fun x => l.contains (f x)
theorem mov_sub (n : Nat) (f : Int → Int) (l : List Int) : mov n f l ∈ lotsA (natsI n) := (mem_lotsA n _).mpr List.filter_sublist
theorem mem_mov {n : Nat} {f : Int → Int} {l : List Int} {x : Int} : x ∈ mov n f l ↔ (0 ≤ x ∧ x < n) ∧ f x ∈ l := by
  unfold mov
  rw [List.mem_filter, natsI_mem]
  exact and_congr_right fun _ => List.contains_iff_mem
theorem lot_ext {n : Nat} {l m : List Int} (hl : l ∈ lotsA (natsI n)) (hm : m ∈ lotsA (natsI n)) (e : ∀ x, x ∈ l ↔ x ∈ m) : l = m := srt_uniq (lot_srt hl) (lot_srt hm) e
section
variable {pr : List (List Int)} {row : List Int} (hp : Prd pr) (hr : Pm pr.length row)
include hr
theorem mem_up {l : List Int} (hl : Below pr.length l) {a : Int} (ha : 0 ≤ a ∧ a < pr.length) : entAt row a ∈ mov pr.length (inv row) l ↔ a ∈ l := by
  rw [mem_mov, hr.inv_ent ha]
  exact ⟨fun h => h.2, fun h => ⟨hr.ent ha, h⟩⟩
theorem mov_back {l : List Int} (hl : l ∈ lotsA (natsI pr.length)) : mov pr.length (entAt row) (mov pr.length (inv row) l) = l := by
  refine lot_ext (mov_sub _ _ _) hl fun x => ?_
  rw [mem_mov]
  constructor
  · intro ⟨h1, h2⟩
    exact (mem_up hr (lot_below hl) h1).mp h2
  · intro h
    have hb := lot_below hl x h
    exact ⟨hb, (mem_up hr (lot_below hl) hb).mpr h⟩
theorem mov_forth {l : List Int} (hl : l ∈ lotsA (natsI pr.length)) : mov pr.length (inv row) (mov pr.length (entAt row) l) = l := by
  refine lot_ext (mov_sub _ _ _) hl fun x => ?_
  rw [mem_mov, mem_mov]
  constructor
  · intro ⟨h1, h2, h3⟩
    rwa [hr.ent_inv h1] at h3
  · intro h
    have hb := lot_below hl x h
    exact ⟨hb, hr.inv_lt hb, by rw [hr.ent_inv hb]; exact h⟩
theorem mov_len {l : List Int} (hl : l ∈ lotsA (natsI pr.length)) : (mov pr.length (inv row) l).length = l.length := by
  have hs : l.Nodup := (lot_srt hl).imp fun {a b} h => by omega
  have hm : (mov pr.length (inv row) l).Nodup := (lot_srt (mov_sub _ _ _)).imp fun {a b} h => by omega
  have hn : (l.map (entAt row)).Nodup := by
    rw [List.Nodup, List.pairwise_map]
    refine hs.imp_of_mem fun {a b} ha hb h e => h ?_
    have := congrArg (inv row) e
    rwa [hr.inv_ent (lot_below hl a ha), hr.inv_ent (lot_below hl b hb)] at this
  have : (mov pr.length (inv row) l).Perm (l.map (entAt row)) := by
    refine (List.perm_ext_iff_of_nodup hm hn).mpr fun x => ?_
    rw [mem_mov, List.mem_map]
    constructor
    · intro ⟨h1, h2⟩
      exact ⟨_, h2, hr.ent_inv h1⟩
    · rintro ⟨a, ha, rfl⟩
      have hb := lot_below hl a ha
      exact ⟨hr.ent hb, by rw [hr.inv_ent hb]; exact ha⟩
  rw [this.length_eq, List.length_map]
include hp
theorem allMet_up {l : List Int} (hl : Below pr.length l) {m : List Int} (hm : ∀ x, x ∈ m ↔ (0 ≤ x ∧ x < pr.length) ∧ inv row x ∈ l) : allMet (ledP pr row) m = allMet pr l := by
  rw [Bool.eq_iff_iff, allMet_iff, allMet_iff]
  constructor
  · intro h a ha b hb
    have h1 := hl a ha
    have h2 := hl b hb
    rw [← metB_led hr h1 h2 hp]
    exact h _ ((hm _).mpr ⟨hr.ent h1, by rw [hr.inv_ent h1]; exact ha⟩) _ ((hm _).mpr ⟨hr.ent h2, by rw [hr.inv_ent h2]; exact hb⟩)
  · intro h a ha b hb
    obtain ⟨a1, a2⟩ := (hm a).mp ha
    obtain ⟨b1, b2⟩ := (hm b).mp hb
    have := h _ a2 _ b2
    rw [← metB_led hr (hr.inv_lt a1) (hr.inv_lt b1) hp, hr.ent_inv a1, hr.ent_inv b1] at this
    exact this
theorem fullB_up {l : List Int} (hl : l ∈ lotsA (natsI pr.length)) : fullB (ledP pr row) (mov pr.length (inv row) l) = fullB pr l := by
  have hb := lot_below hl
  have key : ∀ t : Int, 0 ≤ t ∧ t < pr.length → canAdd (ledP pr row) (mov pr.length (inv row) l) (entAt row t) = canAdd pr l t := fun t ht => by
    unfold canAdd
    congr 1
    · congr 1
      rw [Bool.eq_iff_iff, List.contains_iff_mem, List.contains_iff_mem]
      exact mem_up hr hb ht
    · refine allMet_up hp hr (below_snoc hb ht) fun x => ?_
      rw [List.mem_append, List.mem_append, mem_mov, List.mem_singleton, List.mem_singleton]
      constructor
      · rintro (h | h)
        · exact ⟨h.1, .inl h.2⟩
        · subst h
          exact ⟨hr.ent ht, .inr (hr.inv_ent ht)⟩
      · rintro ⟨h1, h2 | h2⟩
        · exact .inl ⟨h1, h2⟩
        · right
          rw [← h2, hr.ent_inv h1]
  unfold fullB
  rw [ledP_len, Bool.eq_iff_iff, List.isEmpty_iff, List.isEmpty_iff, List.filter_eq_nil_iff, List.filter_eq_nil_iff]
  constructor
  · intro h t ht
    have ht := natsI_mem.mp ht
    rw [← key t ht]
    exact h _ (natsI_mem.mpr (hr.ent ht))
  · intro h t ht
    have ht := natsI_mem.mp ht
    have := h _ (natsI_mem.mpr (hr.inv_lt ht))
    rw [← key _ (hr.inv_lt ht), hr.ent_inv ht] at this
    exact this
theorem full_led_lens : ((fullL (ledP pr row)).map List.length).Perm ((fullL pr).map List.length) := by
  have hmem : ∀ l, l ∈ lotsA (natsI pr.length) → (mov pr.length (inv row) l ∈ fullL (ledP pr row) ↔ l ∈ fullL pr) := fun l hl => by
    unfold fullL
    rw [lotsM_eq, lotsM_eq, ledP_len, List.mem_filter, List.mem_filter, List.mem_filter, List.mem_filter, fullB_up hp hr hl, allMet_up hp hr (lot_below hl) fun x => mem_mov]
    exact ⟨fun h => ⟨⟨hl, h.1.2⟩, h.2⟩, fun h => ⟨⟨mov_sub _ _ _, h.1.2⟩, h.2⟩⟩
  have hsub : ∀ q : List (List Int), q.length = pr.length → ∀ l, l ∈ fullL q → l ∈ lotsA (natsI pr.length) := fun q hq l h => by
    unfold fullL at h
    rw [lotsM_eq, hq] at h
    exact (List.mem_filter.mp (List.mem_filter.mp h).1).1
  have hnd : ∀ q : List (List Int), (fullL q).Nodup := fun q => by
    unfold fullL
    rw [lotsM_eq]
    exact ((lotsA_nodup _).filter _).filter _
  have hperm : (fullL (ledP pr row)).Perm ((fullL pr).map (mov pr.length (inv row))) := by
    refine (List.perm_ext_iff_of_nodup (hnd _) ?_).mpr fun x => ?_
    · rw [List.Nodup, List.pairwise_map]
      refine (hnd pr).imp_of_mem fun {a b} ha hb h e => h ?_
      have := congrArg (mov pr.length (entAt row)) e
      rwa [mov_back hr (hsub pr rfl a ha), mov_back hr (hsub pr rfl b hb)] at this
    · rw [List.mem_map]
      constructor
      · intro h
        have hx := hsub _ (ledP_len pr row) x h
        refine ⟨mov pr.length (entAt row) x, ?_, mov_forth hr hx⟩
        rw [← hmem _ (mov_sub _ _ _), mov_forth hr hx]
        exact h
      · rintro ⟨l, hl, rfl⟩
        exact (hmem l (hsub pr rfl l hl)).mpr hl
  refine (hperm.map _).trans ?_
  rw [List.map_map]
  have e : (fullL pr).map (List.length ∘ mov pr.length (inv row)) = (fullL pr).map List.length := List.map_congr_left fun l hl => mov_len hr (hsub pr rfl l hl)
  rw [e]
end
theorem metB_turn {pr : List (List Int)} (hp : Prd pr) {a b : Int} (ha : 0 ≤ a ∧ a < pr.length) (hb : 0 ≤ b ∧ b < pr.length) : metB (turnP pr) a b = metB pr a b := by
  have key : ∀ a b : Int, (0 ≤ a ∧ a < pr.length) → (0 ≤ b ∧ b < pr.length) → mul (turnP pr) a b = mul pr b a := fun a b ha hb => by
    unfold mul
    have e : rowAt (turnP pr) a = pr.map fun l => entAt l a := by
      have h : a.toNat < (turnP pr).length := by rw [turnP_len]; omega
      rw [show a = ((a.toNat : Nat) : Int) by omega, rowAt_nat h]
      simp [turnP]
    rw [e]
    have h : b.toNat < (pr.map fun l => entAt l a).length := by rw [List.length_map]; omega
    have h2 : b.toNat < pr.length := by omega
    rw [show b = ((b.toNat : Nat) : Int) by omega, entAt_nat' h, List.getElem_map, rowAt_nat h2]
  unfold metB
  rw [key a b ha hb, key b a hb ha, Bool.eq_iff_iff, beq_iff_eq, beq_iff_eq]
  exact ⟨Eq.symm, Eq.symm⟩
theorem fullL_turn {pr : List (List Int)} (hp : Prd pr) : fullL (turnP pr) = fullL pr :=
  fullL_congr (turnP_len pr) fun a b ha hb => by
    rw [turnP_len] at ha hb
    exact metB_turn hp ha hb
end Mp
set_option Elab.async false
set_option linter.all false
set_option maxRecDepth 100000
set_option maxHeartbeats 0
/-! # things that meet: the program's defs -/
namespace Mp
open PySem
def lrw (l : List Int) : Val := .lst (l.map .int)
theorem undefd_lrw {β : Type} (pr : List Int) (z k : β) : undefd (lrw pr) z k = k := rfl
theorem len_lrw (l : List Int) : lenV (lrw l) = some (.int l.length) := by
  show some (Val.int ((l.map Val.int).length : Int)) = _
  rw [List.length_map]
theorem len_row (l : List Int) : lenV (rowV l) = some (.int l.length) := by
  show some (Val.int ((l.map Val.int).length : Int)) = _
  rw [List.length_map]
theorem tup_lrw (l : List Int) : bifn .tuple [lrw l] = some (rowV l) := rfl
theorem sum_lrw (l : List Int) : bifn .sum [lrw l] = some (.int l.sum) := by
  show omap (fun l => Val.int l.sum) (obind (some (l.map Val.int)) intsV) = _
  rw [obind_some, intsV_ints]
  rfl
theorem range_nats (N : Nat) (h : N ≤ 100000) : items .range [.int (N : Int)] = some ((natsI N).map .int) := by
  rw [range_items N h, up_nats]
theorem nats_lim (N : Nat) (h : N ≤ 100000) : Nat.ble ((natsI N).map Val.int).length LIM = true := lim_le (by rw [List.length_map, natsI_len]; exact h)
section
variable (n : Nat) {pr : List (List Int)} (hp : Prd pr)
include hp
theorem sp_is_met {a b : Int} (ha : 0 ≤ a ∧ a < pr.length) (hb : 0 ≤ b ∧ b < pr.length) : callF p (n + 1) i_is_met [prV pr, .int a, .int b] = .ok (.bl (metB pr a b)) [] := by
  rw [callF_succ, fn_is_met]
  simp -implicitDefEqProofs [runFn, p_is_met, undefd_pr, undefd_row, idx_pr ha.1 ha.2, idx_pr hb.1 hb.2, hp.at2 ha hb, hp.at2 hb ha]
  rfl
theorem sp_met_by {t : Int} (ht : 0 ≤ t ∧ t < pr.length) : callF p (n + 2) i_met_by [prV pr, .int t] = .ok (lrw (metRow pr t)) [] := by
  rw [callF_succ, fn_met_by]
  have h8 := hp.le
  have hc := comp_listF (t := .one 2) (cond := testOf (evs (callF p (n + 1)) [.call i_is_met [.var 0, .var 1, .var 2] [] 0])) (elt := ev (callF p (n + 1)) (.var 2)) (e := [prV pr, .int t, .undef]) (metB pr t) Val.int Val.int (natsI pr.length) fun o ho => by
    have h := sp_is_met n hp ht (natsI_mem.mp ho)
    refine ⟨[prV pr, .int t, .int o], rfl, rfl, ?_, fun _ => by simp -implicitDefEqProofs⟩
    rw [testOf_one]
    simp -implicitDefEqProofs [undefd_pr, h]
  have hr := range_nats pr.length (by omega)
  have hl := nats_lim pr.length (by omega)
  obtain ⟨nv, hnv⟩ : ∃ nv, nv = (natsI pr.length).map Val.int := ⟨_, rfl⟩
  rw [← hnv] at hr hl hc
  simp -implicitDefEqProofs [runFn, p_met_by, undefd_pr, len_pr, hr, hl, hc]
  rfl
theorem sp_pairs_in : callF p (n + 3) i_pairs_in [prV pr] = .ok (.int (nPairs pr)) [] := by
  rw [callF_succ, fn_pairs_in]
  have h8 := hp.le
  have hc := comp_list (t := .one 1) (C := callF p (n + 2)) (elt := ev (callF p (n + 2)) (.bi .len [.call i_met_by [.var 0, .var 1] [] 0])) (e := [prV pr, .undef]) Val.int (fun t => Val.int ((metRow pr t).length : Int)) (natsI pr.length) fun t ht => by
    have h := sp_met_by n hp (natsI_mem.mp ht)
    refine ⟨[prV pr, .int t], rfl, rfl, ?_⟩
    simp -implicitDefEqProofs [undefd_pr, h, len_lrw]
  have hr := range_nats pr.length (by omega)
  have hl := nats_lim pr.length (by omega)
  have hs := sum_lrw ((natsI pr.length).map fun t => ((metRow pr t).length : Int))
  unfold lrw at hs
  rw [List.map_map] at hs
  obtain ⟨nv, hnv⟩ : ∃ nv, nv = (natsI pr.length).map Val.int := ⟨_, rfl⟩
  rw [← hnv] at hr hl hc
  have e : (Val.int ∘ fun t => ((metRow pr t).length : Int)) = fun t => Val.int ((metRow pr t).length : Int) := rfl
  rw [e] at hs
  simp -implicitDefEqProofs [runFn, p_pairs_in, undefd_pr, len_pr, hr, hl, hc, hs]
  rfl
theorem sp_are_met {l : List Int} (hb : Below pr.length l) (hl : l.length ≤ 1000) : callF p (n + 2) i_are_met [prV pr, rowV l] = .ok (.bl (allMet pr l)) [] := by
  rw [callF_succ, fn_are_met]
  obtain ⟨xs, hxs⟩ : ∃ xs, xs = l.map Val.int := ⟨_, rfl⟩
  have hv : rowV l = .tup xs := by rw [hxs]; rfl
  have hlim : Nat.ble xs.length LIM = true := lim_le (by rw [hxs, List.length_map]; omega)
  have hin : ∀ t : Int, 0 ≤ t ∧ t < pr.length → compN (.one 2) (testOf (evs (callF p (n + 1)) [])) (ev (callF p (n + 1)) (.call i_is_met [.var 0, .var 3, .var 2] [] 0)) xs [prV pr, .tup xs, .undef, .int t] = .ok ((l.map (metB pr t)).map .bl) [prV pr, .tup xs, .undef, .int t] := fun t ht => by
    rw [hxs, List.map_map]
    refine comp_list Val.int (Val.bl ∘ metB pr t) l fun o ho => ?_
    have h := sp_is_met n hp ht (hb o ho)
    refine ⟨[prV pr, .tup (l.map .int), .int o, .int t], rfl, rfl, ?_⟩
    simp -implicitDefEqProofs [undefd_pr, h]
  have hout : compN (.one 3) (testOf (evs (callF p (n + 1)) [])) (ev (callF p (n + 1)) (.bi .all [(.comp (.one 2) .plain [(.var 1)] [] (.call i_is_met [(.var 0), (.var 3), (.var 2)] [] 0))])) xs [prV pr, .tup xs, .undef, .undef] = .ok ((l.map fun t => l.all fun o => metB pr t o).map .bl) [prV pr, .tup xs, .undef, .undef] := by
    rw [List.map_map]
    conv => lhs; arg 4; rw [hxs]
    refine comp_list Val.int (Val.bl ∘ fun t => l.all fun o => metB pr t o) l fun t ht => ?_
    have h := hin t (hb t ht)
    have ha := bifn_all (l.map (metB pr t))
    rw [List.all_map] at ha
    obtain ⟨bs, hbs⟩ : ∃ bs, bs = (l.map (metB pr t)).map Val.bl := ⟨_, rfl⟩
    rw [← hbs] at ha h
    refine ⟨[prV pr, .tup xs, .undef, .int t], rfl, rfl, ?_⟩
    simp -implicitDefEqProofs [-bifn_all, hlim, h, ha]
  have ha := bifn_all (l.map fun t => l.all fun o => metB pr t o)
  rw [List.all_map] at ha
  obtain ⟨bs, hbs⟩ : ∃ bs, bs = (l.map fun t => l.all fun o => metB pr t o).map Val.bl := ⟨_, rfl⟩
  rw [← hbs] at ha hout
  rw [hv]
  simp -implicitDefEqProofs [-bifn_all, runFn, p_are_met, undefd_pr, hlim, hout, ha]
  rfl
end
def rising (l : List Int) : Bool := (l.zip (l.drop 1)).all fun q => decide (q.1 < q.2)
theorem sp_is_rising (n : Nat) (l : List Int) (hl : l.length ≤ 1000) : callF p (n + 1) i_is_rising [rowV l] = .ok (.bl (rising l)) [] := by
  rw [callF_succ, fn_is_rising]
  have hz := zipV_map Val.int Val.int l (l.drop 1)
  have hs : slcV (rowV l) [.int 1] [] = some (rowV (l.drop 1)) := by
    have := slc_from_t (l.map Val.int) (show (0 : Int) ≤ 1 by omega)
    rw [show (1 : Int).toNat = 1 from rfl, ← List.map_drop] at this
    exact this
  have hi : items .zip [rowV l, rowV (l.drop 1)] = some ((l.zip (l.drop 1)).map fun q => .tup [.int q.1, .int q.2]) := by
    rw [← hz]
    rfl
  have hc := comp_list (t := .tup [1, 2]) (C := callF p n) (elt := ev (callF p n) (.cmp .lt (.var 1) (.var 2))) (e := [rowV l, .undef, .undef]) (fun q : Int × Int => Val.tup [.int q.1, .int q.2]) (fun q => Val.bl (decide (q.1 < q.2))) (l.zip (l.drop 1)) fun q _ => by
    refine ⟨[rowV l, .int q.1, .int q.2], rfl, rfl, ?_⟩
    simp -implicitDefEqProofs
  have ha := bifn_all ((l.zip (l.drop 1)).map fun q => decide (q.1 < q.2))
  rw [List.all_map, List.map_map] at ha
  have hlim : Nat.ble ((l.zip (l.drop 1)).map fun q => Val.tup [.int q.1, .int q.2]).length LIM = true := lim_le (by rw [List.length_map, List.length_zip]; omega)
  obtain ⟨zs, hzs⟩ : ∃ zs, zs = (l.zip (l.drop 1)).map fun q => Val.tup [.int q.1, .int q.2] := ⟨_, rfl⟩
  rw [← hzs] at hi hc hlim
  have e : (Val.bl ∘ fun q : Int × Int => decide (q.1 < q.2)) = fun q => Val.bl (decide (q.1 < q.2)) := rfl
  rw [e] at ha
  obtain ⟨bs, hbs⟩ : ∃ bs, bs = (l.zip (l.drop 1)).map fun q => Val.bl (decide (q.1 < q.2)) := ⟨_, rfl⟩
  rw [← hbs] at ha hc
  obtain ⟨l1, hl1⟩ : ∃ l1, l1 = l.drop 1 := ⟨_, rfl⟩
  have hri : rising l = ((l.zip (l.drop 1)).all (id ∘ fun q => decide (q.1 < q.2))) := rfl
  rw [hri]
  clear hzs hbs hz hri
  rw [← hl1] at hs hi ha ⊢
  simp -implicitDefEqProofs [-bifn_all, runFn, p_is_rising, undefd_row, hs, hi, hlim, hc, ha]
theorem rising_iff : ∀ l : List Int, rising l = true ↔ l.Pairwise (· < ·)
  | [] => by simp [rising]
  | [a] => by simp [rising]
  | a :: b :: l => by
    have ih := rising_iff (b :: l)
    have e : rising (a :: b :: l) = (decide (a < b) && rising (b :: l)) := rfl
    rw [e, Bool.and_eq_true, decide_eq_true_eq, ih]
    constructor
    · intro ⟨h1, h2⟩
      refine List.pairwise_cons.mpr ⟨fun x hx => ?_, h2⟩
      rcases List.mem_cons.mp hx with e | hx
      · rw [e]; exact h1
      · exact Int.lt_trans h1 ((List.pairwise_cons.mp h2).1 x hx)
    · intro h
      obtain ⟨h1, h2⟩ := List.pairwise_cons.mp h
      exact ⟨h1 b (by simp), h2⟩
/-- whether a value is a meeting lot -/
def isML (pr : List (List Int)) (v : Val) : Bool := areTh pr.length v 1 pr.length && (rising (thOf v) && allMet pr (thOf v))
section
variable (n : Nat) {pr : List (List Int)} (hp : Prd pr)
include hp
theorem sp_fits_meeting (m : Nat) (v : Val) (hv : dat m v = true) : callF p (n + 4) i_fits_meeting [prV pr, v] = .ok (.bl (isML pr v)) [] := by
  rw [callF_succ, fn_fits_meeting]
  have h8 := hp.le
  have a1 := sp_are_things n m pr.length 1 pr.length v hv (by omega)
  have hvd := dat_isDat hv
  cases hA : areTh pr.length v 1 pr.length with
  | false =>
    rw [hA] at a1
    simp -implicitDefEqProofs [runFn, p_fits_meeting, undefd_pr, undefd_of hvd, len_pr, a1, isML, hA]
  | true =>
    obtain ⟨l, rfl, hb, hl1, hl2⟩ := areTh_inv hA
    rw [hA] at a1
    have a2 := sp_is_rising (n + 2) l (by omega)
    have a3 := sp_are_met (n + 1) hp hb (by omega)
    have e : isML pr (rowV l) = (rising l && allMet pr l) := by unfold isML; rw [hA, thOf_row]; rfl
    rw [e]
    cases hr : rising l with
    | false =>
      rw [hr] at a2
      simp -implicitDefEqProofs [runFn, p_fits_meeting, undefd_pr, undefd_row, len_pr, a1, a2]
    | true =>
      rw [hr] at a2
      simp -implicitDefEqProofs [runFn, p_fits_meeting, undefd_pr, undefd_row, len_pr, a1, a2, a3]
theorem sp_is_meeting_lot (m : Nat) (v : Val) (hv : dat m v = true) : callF p (n + 6) i_is_meeting_lot [prV pr, v] = .ok (.bl (isML pr v)) [] := by
  rw [callF_succ, fn_is_meeting_lot]
  have a0 := sp_need_product n 8 _ hp.dat hp.is
  have a1 := sp_fits_meeting (n + 1) hp m v hv
  simp -implicitDefEqProofs [runFn, p_is_meeting_lot, undefd_pr, undefd_of (dat_isDat hv), a0, a1]
theorem sp_do_meet {a b : Int} (ha : 0 ≤ a ∧ a < pr.length) (hb : 0 ≤ b ∧ b < pr.length) : callF p (n + 6) i_do_meet [prV pr, .int a, .int b] = .ok (.bl (metB pr a b)) [] := by
  rw [callF_succ, fn_do_meet]
  have a0 := sp_need_product n 8 _ hp.dat hp.is
  have h2 := sp_need_thing (n + 2) (pr.map rowV) a (by rw [List.length_map]; exact ha)
  have h3 := sp_need_thing (n + 2) (pr.map rowV) b (by rw [List.length_map]; exact hb)
  simp -implicitDefEqProofs only [show Val.tup (pr.map rowV) = prV pr from rfl] at h2 h3
  have h4 := sp_is_met (n + 4) hp ha hb
  simp -implicitDefEqProofs [runFn, p_do_meet, undefd_pr, a0, h2, h3, h4]
theorem sp_meeting_things {a : Int} (ha : 0 ≤ a ∧ a < pr.length) : callF p (n + 6) i_meeting_things [prV pr, .int a] = .ok (rowV (metRow pr a)) [] := by
  rw [callF_succ, fn_meeting_things]
  have a0 := sp_need_product n 8 _ hp.dat hp.is
  have h2 := sp_need_thing (n + 2) (pr.map rowV) a (by rw [List.length_map]; exact ha)
  simp -implicitDefEqProofs only [show Val.tup (pr.map rowV) = prV pr from rfl] at h2
  have h4 := sp_met_by (n + 3) hp ha
  have h5 := tup_lrw (metRow pr a)
  simp -implicitDefEqProofs [-bifn_tuple, runFn, p_meeting_things, undefd_pr, a0, h2, h4, h5]
theorem sp_count_meeting_pairs : callF p (n + 6) i_count_meeting_pairs [prV pr] = .ok (.int (nPairs pr)) [] := by
  rw [callF_succ, fn_count_meeting_pairs]
  have a0 := sp_need_product n 8 _ hp.dat hp.is
  have h4 := sp_pairs_in (n + 2) hp
  simp -implicitDefEqProofs [runFn, p_count_meeting_pairs, undefd_pr, a0, h4]
end
/-! ### the greatest common divisor -/
theorem sp_divisor (n : Nat) (a b : Nat) (hb : b ≤ 1000) : callF p (n + 1) i_divisor_of [.int a, .int b] = .ok (.int (Nat.gcd a b)) [] := by
  rw [callF_succ, fn_divisor_of]
  suffices q : ∃ w outs, endO [0, 0] (exs (callF p n) p_divisor_of.body [.int a, .int b]) = .ok w outs ∧ (outs = [] ∧ w = .int (Nat.gcd a b)) by
    obtain ⟨w, outs, q, rfl, rfl⟩ := q
    exact q
  refine call_wp ?_
  simp -implicitDefEqProofs [p_divisor_of]
  refine WpO_seq ?_
  refine wp_whl (fun m e => ∃ x y : Nat, e = [.int x, .int y] ∧ m = y ∧ Nat.gcd x y = Nat.gcd a b) ?_ _ b _ (by omega) ⟨a, b, rfl, rfl, rfl⟩
  intro m e he
  obtain ⟨x, y, he, hm, hg⟩ := he
  rw [he]
  refine ⟨!decide (y = 0), [.int x, .int y], ?_, fun hb => ?_, fun hb => ?_⟩
  · simp -implicitDefEqProofs
    by_cases h : y = 0
    · subst h; rfl
    · have : ((y : Int) == 0) = false := by
        have : (y : Int) ≠ 0 := by omega
        simpa using this
      rw [this]
      simp [h]
  · have h : y = 0 := by simpa using hb
    subst h
    simp -implicitDefEqProofs
    rw [← hg, Nat.gcd_zero_right]
  · have h : y ≠ 0 := by simpa using hb
    have hm2 := bMod_int (x : Int) (y : Int) (by omega)
    simp -implicitDefEqProofs [hm2]
    refine ⟨x % y, ?_, y, x % y, ⟨rfl, (Int.natCast_emod x y).symm⟩, rfl, ?_⟩
    · rw [hm]; exact Nat.mod_lt _ (by omega)
    · rw [← hg, Nat.gcd_comm x y, Nat.gcd_rec y x, Nat.gcd_comm]
theorem sp__law_common (n : Nat) (a b : Nat) (hb : b ≤ 1000) : callF p (n + 1) i__law_common [.int a, .int b] = .ok (.int (Nat.gcd a b)) [] := by
  rw [callF_succ, fn__law_common]
  suffices q : ∃ w outs, endO [0, 0] (exs (callF p n) p__law_common.body [.int a, .int b]) = .ok w outs ∧ (outs = [] ∧ w = .int (Nat.gcd a b)) by
    obtain ⟨w, outs, q, rfl, rfl⟩ := q
    exact q
  refine call_wp ?_
  simp -implicitDefEqProofs [p__law_common]
  refine WpO_seq ?_
  refine wp_whl (fun m e => ∃ x y : Nat, e = [.int x, .int y] ∧ m = y ∧ Nat.gcd x y = Nat.gcd a b) ?_ _ b _ (by omega) ⟨a, b, rfl, rfl, rfl⟩
  intro m e he
  obtain ⟨x, y, he, hm, hg⟩ := he
  rw [he]
  refine ⟨!decide (y = 0), [.int x, .int y], ?_, fun hb => ?_, fun hb => ?_⟩
  · simp -implicitDefEqProofs
    by_cases h : y = 0
    · subst h; rfl
    · have : ((y : Int) == 0) = false := by
        have : (y : Int) ≠ 0 := by omega
        simpa using this
      rw [this]
      simp [h]
  · have h : y = 0 := by simpa using hb
    subst h
    simp -implicitDefEqProofs
    rw [← hg, Nat.gcd_zero_right]
  · have h : y ≠ 0 := by simpa using hb
    have hm2 := bMod_int (x : Int) (y : Int) (by omega)
    simp -implicitDefEqProofs [hm2]
    refine ⟨x % y, ?_, y, x % y, ⟨rfl, (Int.natCast_emod x y).symm⟩, rfl, ?_⟩
    · rw [hm]; exact Nat.mod_lt _ (by omega)
    · rw [← hg, Nat.gcd_comm x y, Nat.gcd_rec y x, Nat.gcd_comm]
end Mp
set_option Elab.async false
set_option linter.all false
set_option maxRecDepth 100000
set_option maxHeartbeats 0
/-! # shares, full lots, the law's lots and its judge -/
namespace Mp
open PySem
theorem nPairs_nn (pr : List (List Int)) : 0 ≤ nPairs pr := by
  unfold nPairs
  generalize natsI pr.length = l
  induction l with
  | nil => exact Int.le_refl 0
  | cons a l ih => rw [List.map_cons, List.sum_cons]; omega
def gP (pr : List (List Int)) : Nat := Nat.gcd (nPairs pr).toNat (pr.length * pr.length)
def shareV (pr : List (List Int)) : Val := .tup [.int (nPairs pr / (gP pr : Int)), .int (((pr.length * pr.length : Nat) : Int) / (gP pr : Int))]
theorem gP_pos {pr : List (List Int)} (hp : Prd pr) : 1 ≤ gP pr ∧ gP pr ≤ 64 := by
  have h1 := hp.pos
  have h8 := hp.le
  have hN : 1 ≤ pr.length * pr.length := Nat.mul_le_mul h1 h1
  have hN2 : pr.length * pr.length ≤ 8 * 8 := Nat.mul_le_mul h8 h8
  have := Nat.gcd_pos_of_pos_right (nPairs pr).toNat (show 0 < pr.length * pr.length by omega)
  have h3 := Nat.gcd_le_right (nPairs pr).toNat (show 0 < pr.length * pr.length by omega)
  unfold gP
  omega
theorem sp_meeting_share (n : Nat) {pr : List (List Int)} (hp : Prd pr) : callF p (n + 6) i_meeting_share [prV pr] = .ok (shareV pr) [] := by
  rw [callF_succ, fn_meeting_share]
  have h1 := hp.pos
  have h8 := hp.le
  have hN2 : pr.length * pr.length ≤ 8 * 8 := Nat.mul_le_mul h8 h8
  have a0 := sp_need_product n 8 _ hp.dat hp.is
  have a1 := sp_pairs_in (n + 2) hp
  obtain ⟨P, hP⟩ : ∃ P : Nat, nPairs pr = (P : Int) := ⟨(nPairs pr).toNat, by have := nPairs_nn pr; omega⟩
  have a2 := sp_divisor (n + 4) P (pr.length * pr.length) (by omega)
  have hg := gP_pos hp
  have eg : Nat.gcd P (pr.length * pr.length) = gP pr := by
    unfold gP
    rw [hP, Int.toNat_natCast]
  rw [eg] at a2
  have hm : bMul (.int (pr.length : Int)) (.int (pr.length : Int)) = some (.int ((pr.length * pr.length : Nat) : Int)) := by
    rw [bMul_int _ _ (.inl (small_of (by omega) (by omega))), Int.natCast_mul]
  have d1 := bDiv_int (P : Int) (gP pr : Int) (by omega) (by omega)
  have d2 := bDiv_int ((pr.length * pr.length : Nat) : Int) (gP pr : Int) (by omega) (by omega)
  have es : shareV pr = .tup [.int ((P : Int) / (gP pr : Int)), .int (((pr.length * pr.length : Nat) : Int) / (gP pr : Int))] := by
    unfold shareV
    rw [hP]
  rw [es]
  rw [hP] at a1
  obtain ⟨W, hW⟩ : ∃ W : Int, W = ((pr.length * pr.length : Nat) : Int) := ⟨_, rfl⟩
  rw [← hW] at a2 hm d2 ⊢
  simp -implicitDefEqProofs [runFn, p_meeting_share, undefd_pr, len_pr, a0, a1, a2, hm, d1, d2]
/-! ### sorted rows -/
theorem rowsV_rows : ∀ L : List (List Int), (∀ l, l ∈ L → l ≠ []) → rowsV (L.map rowV) = some L
  | [], _ => rfl
  | l :: L, h => by
    have ih := rowsV_rows L fun m hm => h m (by simp [hm])
    cases l with
    | nil => exact absurd rfl (h [] (by simp))
    | cons a l =>
      show (match intsV ((a :: l).map .int) with
        | some (a :: l) => (rowsV (L.map rowV)).map ((a :: l) :: ·)
        | _ => none) = _
      rw [intsV_ints, ih]
      rfl
theorem sort_rows (L : List (List Int)) (h : ∀ l, l ∈ L → l ≠ []) : bifn .sorted [.lst (L.map rowV)] = some (.lst ((sortR L).map rowV)) := by
  show sortX (.lst (L.map rowV)) = _
  cases L with
  | nil => rfl
  | cons l L =>
    show (rowsV ((l :: L).map rowV)).map _ = _
    rw [rowsV_rows _ h]
    rfl
theorem add_row (l : List Int) (t : Int) (h : l.length ≤ 1000) : bAdd (rowV l) (.tup [.int t]) = some (rowV (l ++ [t])) := by
  show bAdd (.tup (l.map .int)) (.tup [.int t]) = _
  rw [bAdd_tup _ _ (le_LIM (by rw [List.length_map]; simp; omega))]
  simp [rowV]
theorem isIn_row (a : Int) (l : List Int) : isIn (.int a) (rowV l) = some (l.contains a) := by
  show (if isDat (.int a) && Nat.ble (min (deps (l.map Val.int)) (dep (.int a))) 180 then some (anyEq (.int a) (l.map .int)) else none) = _
  have e : ∀ l : List Int, anyEq (.int a) (l.map .int) = l.contains a := fun l => by
    induction l with
    | nil => rfl
    | cons b l ih =>
      rw [List.map_cons, anyEq, ih, List.contains_cons]
      congr 1
      rw [eqv, Bool.eq_iff_iff, beq_iff_eq, beq_iff_eq]
      exact ⟨Eq.symm, Eq.symm⟩
  rw [if_pos, e]
  have e2 : dep (.int a) = 0 := rfl
  rw [e2, Nat.min_zero]
  rfl
theorem isIn_lrw (a : Int) (l : List Int) : isIn (.int a) (lrw l) = some (l.contains a) := isIn_row a l
/-! ### lots -/
theorem stepA_len (f : List (List Int)) (t : Int) : (stepA f t).length = 2 * f.length := by
  unfold stepA
  rw [List.length_append, List.length_map]
  omega
theorem lotsA_len' : ∀ ts : List Int, (lotsA ts).length = 2 ^ ts.length := by
  have key : ∀ (ts : List Int) (f : List (List Int)), (ts.foldl stepA f).length = f.length * 2 ^ ts.length := by
    intro ts
    induction ts with
    | nil => intro f; simp
    | cons t ts ih =>
      intro f
      rw [List.foldl_cons, ih, stepA_len, List.length_cons, Nat.pow_succ]
      rw [Nat.mul_comm (2 ^ ts.length) 2, ← Nat.mul_assoc, Nat.mul_comm f.length 2]
  intro ts
  unfold lotsA
  rw [key]
  simp
theorem lotsA_snoc (ts : List Int) (t : Int) : lotsA (ts ++ [t]) = stepA (lotsA ts) t := by
  unfold lotsA
  rw [List.foldl_append]
  rfl
theorem lotsA_elen : ∀ (ts : List Int), ∀ l, l ∈ lotsA ts → l.length ≤ ts.length := by
  have key : ∀ (ts : List Int) (f : List (List Int)) (k : Nat), (∀ l, l ∈ f → l.length ≤ k) → ∀ l, l ∈ ts.foldl stepA f → l.length ≤ k + ts.length := by
    intro ts
    induction ts with
    | nil => intro f k h l hl; exact h l hl
    | cons t ts ih =>
      intro f k h l hl
      rw [List.foldl_cons] at hl
      have := ih (stepA f t) (k + 1) (fun m hm => by
        unfold stepA at hm
        rcases List.mem_append.mp hm with hm | hm
        · have := h m hm; omega
        · obtain ⟨a, ha, rfl⟩ := List.mem_map.mp hm
          have := h a ha
          rw [List.length_append]
          exact Nat.succ_le_succ this) l hl
      rw [List.length_cons]
      omega
  intro ts l hl
  have := key ts [[]] 0 (fun l hl => by rw [List.mem_singleton.mp hl]; exact Nat.le_refl _) l hl
  omega
theorem sp_law_lots (n : Nat) (ts : List Int) (h : ts.length ≤ 8) : callF p (n + 1) i__law_lots [lrw ts] = .ok (.lst ((lotsA ts).map rowV)) [] := by
  rw [callF_succ, fn__law_lots]
  suffices q : ∃ w outs, endO [0] (exs (callF p n) p__law_lots.body [lrw ts, .undef, .undef, .undef]) = .ok w outs ∧ (outs = [] ∧ w = .lst ((lotsA ts).map rowV)) by
    obtain ⟨w, outs, q, rfl, rfl⟩ := q
    exact q
  refine call_wp ?_
  have hi : items .plain [lrw ts] = some (ts.map .int) := rfl
  simp -implicitDefEqProofs [p__law_lots, undefd_lrw, hi]
  refine WpO_seq ?_
  refine wp_list (f := Val.int) (fun xs e => ∃ done, done ++ xs = ts ∧ e = [lrw ts, .lst ((lotsA done).map rowV), .undef, .undef]) ?_ ?_ ts ⟨[], rfl, rfl⟩
  · intro e ⟨done, hd, he⟩
    rw [he]
    rw [List.append_nil] at hd
    subst hd
    simp -implicitDefEqProofs
  · intro t xs e ⟨done, hd, he⟩
    rw [he]
    refine ⟨_, rfl, ?_⟩
    have hdl : done.length + 1 ≤ 8 := by
      have := congrArg List.length hd
      rw [List.length_append, List.length_cons] at this
      omega
    have h2 : 2 ^ done.length ≤ 2 ^ 8 := Nat.pow_le_pow_right (by omega) (by omega)
    have hlen := lotsA_len' done
    have hc := comp_list (t := .one 3) (C := callF p n) (elt := ev (callF p n) (.bin .add (.var 3) (.tup [.var 2]))) (e := [lrw ts, .lst ((lotsA done).map rowV), .int t, .undef]) rowV (fun l => rowV (l ++ [t])) (lotsA done) fun l hl => by
      refine ⟨[lrw ts, .lst ((lotsA done).map rowV), .int t, rowV l], rfl, rfl, ?_⟩
      have ha := add_row l t (by have := lotsA_elen done l hl; omega)
      simp -implicitDefEqProofs [undefd_row, ha]
    have hadd := bAdd_lst ((lotsA done).map rowV) ((lotsA done).map fun l => rowV (l ++ [t])) (le_LIM (by rw [List.length_map, List.length_map]; omega))
    have hres : ((lotsA done).map rowV) ++ ((lotsA done).map fun l => rowV (l ++ [t])) = (lotsA (done ++ [t])).map rowV := by
      rw [lotsA_snoc, stepA, List.map_append, List.map_map]
      rfl
    rw [hres] at hadd
    obtain ⟨lv, hlv⟩ : ∃ lv, lv = (lotsA done).map rowV := ⟨_, rfl⟩
    have hlim : Nat.ble lv.length LIM = true := lim_le (by rw [hlv, List.length_map]; omega)
    obtain ⟨cv, hcv⟩ : ∃ cv, cv = (lotsA done).map fun l => rowV (l ++ [t]) := ⟨_, rfl⟩
    rw [← hlv, ← hcv] at hc hadd
    rw [← hlv]
    simp -implicitDefEqProofs [undefd_lrw, hlim, hc, hadd]
    exact ⟨done ++ [t], by rw [← hd]; simp, rfl⟩
end Mp
set_option Elab.async false
set_option linter.all false
set_option maxRecDepth 100000
set_option maxHeartbeats 0
/-! # full lots; the law's judge -/
namespace Mp
open PySem
theorem lotsM_sub (pr : List (List Int)) {n : Nat} {l : List Int} (h : l ∈ lotsM pr (natsI n)) : l ∈ lotsA (natsI n) := by
  rw [lotsM_eq] at h
  exact (List.mem_filter.mp h).1
theorem lotsM_len (pr : List (List Int)) (n : Nat) : (lotsM pr (natsI n)).length ≤ 2 ^ n := by
  rw [lotsM_eq]
  have := List.length_filter_le (allMet pr) (lotsA (natsI n))
  rw [lotsA_len] at this
  exact this
theorem lotsM_succ (pr : List (List Int)) (n : Nat) : lotsM pr (natsI (n + 1)) = stepM pr (lotsM pr (natsI n)) n := by
  unfold lotsM
  rw [natsI_succ, List.foldl_append]
  rfl
theorem fullL_ne {pr : List (List Int)} (hp : Prd pr) : ∀ l, l ∈ fullL pr → l ≠ [] := fun l hl e => by
  have := (List.mem_filter.mp hl).2
  rw [e, full_nil hp] at this
  cases this
theorem sp_full_in (n : Nat) {pr : List (List Int)} (hp : Prd pr) : callF p (n + 3) i_full_in [prV pr] = .ok (.lst ((sortR (fullL pr)).map rowV)) [] := by
  rw [callF_succ, fn_full_in]
  suffices q : ∃ w outs, endO [0] (exs (callF p (n + 2)) p_full_in.body [prV pr, .undef, .undef, .undef, .undef, .undef]) = .ok w outs ∧ (outs = [] ∧ w = .lst ((sortR (fullL pr)).map rowV)) by
    obtain ⟨w, outs, q, rfl, rfl⟩ := q
    exact q
  refine call_wp ?_
  have h8 := hp.le
  have hri := range_items pr.length (by omega)
  have hrl : Nat.ble (upFrom 0 pr.length).length LIM = true := lim_le (by rw [upFrom_len2]; omega)
  simp -implicitDefEqProofs only [p_full_in]
  have s0 : ex (callF p (n + 2)) (.par [1, 2] [0, 1] [(.lst [(.tup [])]), (.lst [])]) [prV pr, .undef, .undef, .undef, .undef, .undef] = .nx [prV pr, .lst ((lotsM pr (natsI 0)).map rowV), .lst [], .undef, .undef, .undef] := by
    simp -implicitDefEqProofs
    rfl
  rw [exs_cons, s0, seqO_nx, exs_cons]
  refine WpO_seq ?_
  rw [ex_loop, xLoop_eq]
  simp -implicitDefEqProofs only [evs_cons, evs_nil, vCons_eq, kCons_eq, kCons2_eq, kLoop_eq, ev_var, vVar_eq, vBi_eq, kBi_eq, ev_bi, bifn_len, len_pr, ofO_some, undefd_pr, gt_succ, gt_zero, undefd_int, bindR_ok, bindO_ok, hri, forI_some]
  refine wp_range (lo := 0) (fun i e => ∃ z, e = [prV pr, .lst ((lotsM pr (natsI i)).map rowV), .lst [], z, .undef, .undef]) ?_ ?_ ⟨.undef, rfl⟩
  · intro e ⟨z, he⟩
    rw [he]
    clear he
    have h2 : 2 ^ pr.length ≤ 2 ^ 8 := Nat.pow_le_pow_right (by omega) (by omega)
    have hML := lotsM_len pr pr.length
    have hMs : ∀ l, l ∈ lotsM pr (natsI pr.length) → l ∈ lotsA (natsI pr.length) := fun l hl => lotsM_sub pr hl
    have hfull : (lotsM pr (natsI pr.length)).filter (fullB pr) = fullL pr := rfl
    obtain ⟨L, hL⟩ : ∃ L, L = lotsM pr (natsI pr.length) := ⟨_, rfl⟩
    rw [← hL] at hML hMs hfull ⊢
    rw [exs_cons]
    refine WpO_seq ?_
    rw [ex_loop, xLoop_eq]
    simp -implicitDefEqProofs only [evs_cons, evs_nil, vCons_eq, kCons_eq, kCons2_eq, kLoop_eq, ev_var, vVar_eq, gt_succ, gt_zero, undefd_lst, bindR_ok, bindO_ok, items_lst, forI_some]
    refine wp_list (f := rowV) (fun xs e => ∃ done z, done ++ xs = L ∧ e = [prV pr, .lst (L.map rowV), .lst ((done.filter (fullB pr)).map rowV), z, .undef, .undef]) ?_ ?_ L ⟨[], z, rfl, rfl⟩
    · intro e ⟨done, z, hd, he⟩
      rw [he]
      rw [List.append_nil] at hd
      subst hd
      have hs := sort_rows (fullL pr) (fullL_ne hp)
      rw [hfull]
      obtain ⟨fv, hfv⟩ : ∃ fv, fv = (fullL pr).map rowV := ⟨_, rfl⟩
      rw [← hfv] at hs ⊢
      simp -implicitDefEqProofs [hs]
    · intro l xs e ⟨done, z, hd, he⟩
      rw [he]
      clear he
      refine ⟨_, rfl, ?_⟩
      have hlL : l ∈ L := by rw [← hd]; simp
      have hlot := hMs l hlL
      have hb := lot_below hlot
      have hll := lot_len hlot
      have hdl : done.length + 1 ≤ L.length := by
        have := congrArg List.length hd
        rw [List.length_append, List.length_cons] at this
        omega
      have hfl := List.length_filter_le (fullB pr) done
      obtain ⟨Lv, hLv⟩ : ∃ Lv, Lv = L.map rowV := ⟨_, rfl⟩
      obtain ⟨dv, hdv⟩ : ∃ dv, dv = (done.filter (fullB pr)).map rowV := ⟨_, rfl⟩
      have hdvl : dv.length ≤ 100000 := by rw [hdv, List.length_map]; omega
      rw [← hLv, ← hdv]
      have hc := comp_listF (t := .one 3) (cond := testOf (evs (callF p (n + 2)) [(.and (.cmp .notin (.var 3) (.var 4)) (.call i_are_met [(.var 0), (.bin .add (.var 4) (.tup [(.var 3)]))] [] 0))])) (elt := ev (callF p (n + 2)) (.var 3)) (e := [prV pr, .lst Lv, .lst dv, .undef, rowV l, .undef]) (canAdd pr l) Val.int Val.int (natsI pr.length) fun t ht => by
        have ht := natsI_mem.mp ht
        refine ⟨[prV pr, .lst Lv, .lst dv, .int t, rowV l, .undef], rfl, rfl, ?_, fun _ => by simp -implicitDefEqProofs⟩
        rw [testOf_one]
        have h1 := isIn_row t l
        have h2 := add_row l t (by omega)
        have h3 := sp_are_met n hp (below_snoc hb ht) (by rw [List.length_append]; simp; omega)
        unfold canAdd
        cases hq : l.contains t with
        | true =>
          rw [hq] at h1
          simp -implicitDefEqProofs [undefd_row, h1]
        | false =>
          rw [hq] at h1
          simp -implicitDefEqProofs [undefd_row, undefd_pr, h1, h2, h3]
      rw [← up_nats] at hc
      obtain ⟨mv, hmv⟩ : ∃ mv, mv = ((natsI pr.length).filter (canAdd pr l)).map Val.int := ⟨_, rfl⟩
      rw [← hmv] at hc
      have hme : mv.isEmpty = fullB pr l := by
        rw [hmv]
        unfold fullB
        cases (natsI pr.length).filter (canAdd pr l) <;> rfl
      have hd2 : ((done ++ [l]).filter (fullB pr)).map rowV = if fullB pr l then dv ++ [rowV l] else dv := by
        rw [hdv, List.filter_append]
        cases hq : fullB pr l <;> simp [hq]
      have happ := appV_lst (rowV l) dv (le_LIM hdvl)
      cases hq : fullB pr l with
      | true =>
        rw [hq] at hme hd2
        simp -implicitDefEqProofs [undefd_pr, undefd_row, len_pr, hri, hrl, hc, hme, happ]
        refine ⟨done ++ [l], by rw [← hd]; simp, ?_⟩
        exact (hd2.trans (if_pos rfl)).symm
      | false =>
        rw [hq] at hme hd2
        simp -implicitDefEqProofs [undefd_pr, undefd_row, len_pr, hri, hrl, hc, hme, happ]
        refine ⟨done ++ [l], by rw [← hd]; simp, ?_⟩
        exact (hd2.trans (if_neg (by decide))).symm
  · intro i e hi ⟨z, he⟩
    rw [he]
    clear he
    refine ⟨_, rfl, ?_⟩
    simp only [Int.zero_add]
    have h2 : 2 ^ i ≤ 2 ^ 8 := Nat.pow_le_pow_right (by omega) (by omega)
    have hML := lotsM_len pr i
    have hMs : ∀ l, l ∈ lotsM pr (natsI i) → l ∈ lotsA (natsI i) := fun l hl => lotsM_sub pr hl
    have hsucc := lotsM_succ pr i
    obtain ⟨L, hL⟩ : ∃ L, L = lotsM pr (natsI i) := ⟨_, rfl⟩
    rw [← hL] at hML hMs hsucc ⊢
    have hi8 : (0 : Int) ≤ (i : Int) ∧ (i : Int) < pr.length := by omega
    have hc := comp_listF (t := .one 4) (cond := testOf (evs (callF p (n + 2)) [(.call i_are_met [(.var 0), (.bin .add (.var 4) (.tup [(.var 3)]))] [] 0)])) (elt := ev (callF p (n + 2)) (.bin .add (.var 4) (.tup [(.var 3)]))) (e := [prV pr, .lst (L.map rowV), .lst [], .int i, .undef, .undef]) (fun l => allMet pr (l ++ [(i : Int)])) rowV (fun l => rowV (l ++ [(i : Int)])) L fun l hl => by
      have hlot := hMs l hl
      have hb : Below pr.length l := fun x hx => by have := lot_below hlot x hx; omega
      have hll := lot_len hlot
      have h2 := add_row l i (by omega)
      have h3 := sp_are_met n hp (below_snoc hb hi8) (by rw [List.length_append]; simp; omega)
      refine ⟨[prV pr, .lst (L.map rowV), .lst [], .int i, rowV l, .undef], rfl, rfl, ?_, fun _ => by simp -implicitDefEqProofs [undefd_row, h2]⟩
      rw [testOf_one]
      simp -implicitDefEqProofs [undefd_row, undefd_pr, h2, h3]
    have hfl := List.length_filter_le (fun l => allMet pr (l ++ [(i : Int)])) L
    have hadd := bAdd_lst (L.map rowV) ((L.filter fun l => allMet pr (l ++ [(i : Int)])).map fun l => rowV (l ++ [(i : Int)])) (le_LIM (by rw [List.length_map, List.length_map]; omega))
    have hres : L.map rowV ++ ((L.filter fun l => allMet pr (l ++ [(i : Int)])).map fun l => rowV (l ++ [(i : Int)])) = (stepM pr L i).map rowV := by
      rw [stepM, List.map_append, List.map_map]
      rfl
    rw [hres, ← hsucc] at hadd
    obtain ⟨lv, hlv⟩ : ∃ lv, lv = L.map rowV := ⟨_, rfl⟩
    have hlim : Nat.ble lv.length LIM = true := lim_le (by rw [hlv, List.length_map]; omega)
    obtain ⟨cv, hcv⟩ : ∃ cv, cv = (L.filter fun l => allMet pr (l ++ [(i : Int)])).map fun l => rowV (l ++ [(i : Int)]) := ⟨_, rfl⟩
    rw [← hlv, ← hcv] at hc hadd
    rw [← hlv]
    simp -implicitDefEqProofs [hlim, hc, hadd]
theorem sp_full_meeting_lots (n : Nat) {pr : List (List Int)} (hp : Prd pr) : callF p (n + 6) i_full_meeting_lots [prV pr] = .ok (.tup ((sortR (fullL pr)).map rowV)) [] := by
  rw [callF_succ, fn_full_meeting_lots]
  have a0 := sp_need_product n 8 _ hp.dat hp.is
  have a1 := sp_full_in (n + 2) hp
  obtain ⟨fv, hfv⟩ : ∃ fv, fv = (sortR (fullL pr)).map rowV := ⟨_, rfl⟩
  rw [← hfv] at a1 ⊢
  simp -implicitDefEqProofs [runFn, p_full_meeting_lots, undefd_pr, a0, a1]
/-! ### the law's judge -/
theorem nodup_le : ∀ {l m : List Int}, l.Nodup → (∀ x, x ∈ l → x ∈ m) → l.length ≤ m.length
  | [], _, _, _ => Nat.zero_le _
  | a :: l, m, h, s => by
    obtain ⟨h1, h2⟩ := List.nodup_cons.mp h
    have hm := s a (by simp)
    have := nodup_le (m := m.erase a) h2 fun x hx => (List.mem_erase_of_ne (by intro e; subst e; exact h1 hx)).mpr (s x (by simp [hx]))
    rw [List.length_erase_of_mem hm] at this
    have := List.length_pos_of_mem hm
    rw [List.length_cons]
    omega
theorem rising_st (l : List Int) : rising l = (l == stI l) := by
  rw [Bool.eq_iff_iff, rising_iff, beq_iff_eq]
  exact ⟨fun h => srt_uniq h (stI_srt l) fun k => (stI_mem k l).symm, fun h => by rw [h]; exact stI_srt l⟩
theorem st_row (l : List Int) (h : l.length ≤ 63) : bifn (.st false) [rowV l] = some (lrw (stI l)) := by
  show obind (obind (seqOf (rowV l)) intsV) (stV false) = _
  rw [show seqOf (rowV l) = some (l.map .int) from rfl]
  show obind (intsV (l.map .int)) (stV false) = _
  rw [intsV_ints]
  show (if Nat.ble l.length 63 then _ else _) = _
  rw [if_pos (Nat.ble_eq_true_of_le h)]
  rfl
theorem list_row (l : List Int) : bifn .list [rowV l] = some (lrw l) := rfl
theorem cEq_lrw (x y : List Int) : cEq (lrw x) (lrw y) = some (x == y) := cEq_ints x y
theorem isW_i (i lo hi : Int) : isW (.int i) lo hi = (decide (lo ≤ i) && decide (i ≤ hi)) := rfl
theorem all_isW {N : Int} : ∀ {xs : List Val}, (xs.filter fun x => !isW x 0 (N - 1)).isEmpty = true → ∃ l : List Int, xs = l.map .int ∧ Below N l
  | [], _ => ⟨[], rfl, fun _ z => nomatch z⟩
  | x :: xs, h => by
    rw [List.filter_cons] at h
    cases hx : isW x 0 (N - 1) with
    | false => rw [hx] at h; simp at h
    | true =>
      rw [hx] at h
      obtain ⟨l, h1, h2⟩ := all_isW (xs := xs) (by simpa using h)
      cases x <;> first | (cases hx; done) | skip
      rename_i i
      rw [isW_i, Bool.and_eq_true, decide_eq_true_eq, decide_eq_true_eq] at hx
      refine ⟨i :: l, by rw [h1]; rfl, fun y hy => ?_⟩
      rcases List.mem_cons.mp hy with e | hy
      · rw [e]; omega
      · exact h2 y hy
theorem below_isW {N : Int} {l : List Int} (h : Below N l) : ((l.map Val.int).filter fun x => !isW x 0 (N - 1)).isEmpty = true := by
  rw [List.isEmpty_iff, List.filter_eq_nil_iff]
  intro x hx
  obtain ⟨i, hi, rfl⟩ := List.mem_map.mp hx
  have := h i hi
  rw [isW_i, decide_eq_true (by omega), decide_eq_true (by omega)]
  decide
theorem sp_law_is_met (n : Nat) {pr : List (List Int)} (hp : Prd pr) (v : Val) (hv : dat 60 v = true) : callF p (n + 2) i__law_is_met [prV pr, v] = .ok (.bl (isML pr v)) [] := by
  rw [callF_succ, fn__law_is_met]
  have h8 := hp.le
  have hvd := dat_isDat hv
  by_cases ht : ∃ xs, v = .tup xs
  · obtain ⟨xs, rfl⟩ := ht
    have hxl := (dat_tup.mp hv).1
    have hxd : ∀ x, x ∈ xs → isDat x = true := fun x hx => dat_isDat ((dat_tup.mp hv).2 x hx)
    cases xs with
    | nil =>
      have e : isML pr (.tup []) = false := rfl
      rw [e]
      simp -implicitDefEqProofs [runFn, p__law_is_met]
    | cons x0 xr =>
      have hc := comp_map (t := .one 2) (cond := testOf (evs (callF p (n + 1)) [(.or (.cmp .ne (.call i__law_sort [(.var 2)] [] 0) (.int 2)) (.not (.cmp2 .le .lt (.int 0) (.var 2) (.bi .len [(.var 0)]))))])) (elt := ev (callF p (n + 1)) (.var 2)) (e := [prV pr, .tup (x0 :: xr), .undef, .undef]) (fun x => !isW x 0 ((pr.length : Int) - 1)) (fun x => x) (x0 :: xr) fun x hx => by
        have hd := hxd x hx
        refine ⟨[prV pr, .tup (x0 :: xr), x, .undef], rfl, rfl, ?_, fun _ => by simp -implicitDefEqProofs [undefd_of hd]⟩
        rw [testOf_one]
        have hs := sp_sort n x hd
        cases x with
        | int i =>
          have e : isW (.int i) 0 ((pr.length : Int) - 1) = (decide (0 ≤ i) && decide (i < (pr.length : Int))) := by
            rw [isW_i]
            congr 1
            exact decide_eq_decide.mpr (by omega)
          rw [e]
          simp -implicitDefEqProofs [hs, sortV, undefd_pr, len_pr]
          cases h0 : decide (0 ≤ i) <;> simp -implicitDefEqProofs [h0, condB_some, undefd_pr, len_pr]
        | _ => first | (cases hd; done) | simp -implicitDefEqProofs [hs, sortV, isW]
      rw [List.map_id'] at hc
      obtain ⟨ys, hys⟩ : ∃ ys, ys = (x0 :: xr).filter fun x => !isW x 0 ((pr.length : Int) - 1) := ⟨_, rfl⟩
      rw [← hys] at hc
      have hlim : Nat.ble (x0 :: xr).length LIM = true := lim_le (by omega)
      obtain ⟨xs, hxs⟩ : ∃ xs, xs = x0 :: xr := ⟨_, rfl⟩
      have hne : xs.isEmpty = false := by rw [hxs]; rfl
      rw [← hxs] at hc hlim hys hxl ⊢
      cases hye : ys.isEmpty with
      | false =>
        have e : isML pr (.tup xs) = false := by
          cases hA : areTh pr.length (.tup xs) 1 pr.length with
          | false => unfold isML; rw [hA]; rfl
          | true =>
            obtain ⟨l, e1, e2, _⟩ := areTh_inv hA
            have e1 := Val.tup.inj e1
            rw [hys, e1, below_isW e2] at hye
            cases hye
        rw [e]
        simp -implicitDefEqProofs [runFn, p__law_is_met, hlim, hc, hye, hne]
      | true =>
        rw [hys] at hye
        obtain ⟨l, e1, hb⟩ := all_isW hye
        rw [← hys] at hye
        have hll : l.length ≤ 60 := by
          have := congrArg List.length e1
          rw [List.length_map] at this
          omega
        have hv2 : Val.tup xs = rowV l := by rw [e1]; rfl
        have a1 := st_row l (by omega)
        have a2 := list_row l
        have a3 := cEq_lrw l (stI l)
        rw [← rising_st] at a3
        have b0 : isTy .tuple (rowV l) = some true := rfl
        have b1 : cEq (rowV l) (.tup []) = some false := by
          rw [← hv2, cEq_tnil, hne]
        have b2 : items .plain [rowV l] = some xs := by rw [e1]; rfl
        have hin : ∀ t : Int, 0 ≤ t ∧ t < pr.length → compN (.one 3) (testOf (evs (callF p (n + 1)) [(.cmp .ne (.idx (.idx (.var 0) (.var 2)) (.var 3)) (.idx (.idx (.var 0) (.var 3)) (.var 2)))])) (ev (callF p (n + 1)) (.var 3)) xs [prV pr, rowV l, .int t, .undef] = .ok ((l.filter fun o => !metB pr t o).map .int) [prV pr, rowV l, .int t, .undef] := fun t ht => by
          rw [e1]
          refine comp_listF (fun o => !metB pr t o) Val.int Val.int l fun o ho => ?_
          have hob := hb o ho
          refine ⟨[prV pr, rowV l, .int t, .int o], rfl, rfl, ?_, fun _ => by simp -implicitDefEqProofs⟩
          rw [testOf_one]
          simp -implicitDefEqProofs [undefd_pr, undefd_row, idx_pr ht.1 ht.2, idx_pr hob.1 hob.2, hp.at2 ht hob, hp.at2 hob ht]
          rfl
        have hout : compN (.one 2) (testOf (evs (callF p (n + 1)) [(.cmp .ne (.comp (.one 3) .plain [(.var 1)] [(.cmp .ne (.idx (.idx (.var 0) (.var 2)) (.var 3)) (.idx (.idx (.var 0) (.var 3)) (.var 2)))] (.var 3)) (.lst []))])) (ev (callF p (n + 1)) (.int 1)) xs [prV pr, rowV l, .undef, .undef] = .ok ((l.filter fun t => !(l.filter fun o => !metB pr t o).isEmpty).map fun _ => .int 1) [prV pr, rowV l, .undef, .undef] := by
          conv => lhs; arg 4; rw [e1]
          refine comp_listF (fun t => !(l.filter fun o => !metB pr t o).isEmpty) Val.int (fun _ => Val.int 1) l fun t htl => ?_
          have h := hin t (hb t htl)
          obtain ⟨zs, hzs⟩ : ∃ zs, zs = (l.filter fun o => !metB pr t o).map Val.int := ⟨_, rfl⟩
          have hze : zs.isEmpty = (l.filter fun o => !metB pr t o).isEmpty := by
            rw [hzs]
            cases l.filter fun o => !metB pr t o <;> rfl
          rw [← hzs] at h
          refine ⟨[prV pr, rowV l, .int t, .undef], rfl, rfl, ?_, fun _ => by simp -implicitDefEqProofs⟩
          rw [testOf_one]
          simp -implicitDefEqProofs [undefd_row, b2, hlim, h, hze]
        have hfin : (l.filter fun t => !(l.filter fun o => !metB pr t o).isEmpty).isEmpty = allMet pr l := by
          rw [Bool.eq_iff_iff, List.isEmpty_iff, List.filter_eq_nil_iff, allMet_iff]
          constructor
          · intro h a ha b hb
            have := h a ha
            rw [Bool.not_eq_true', Bool.not_eq_false, List.isEmpty_iff, List.filter_eq_nil_iff] at this
            have := this b hb
            simpa using this
          · intro h a ha
            rw [Bool.not_eq_true', Bool.not_eq_false, List.isEmpty_iff, List.filter_eq_nil_iff]
            intro b hb
            simp [h a ha b hb]
        obtain ⟨us, hus⟩ : ∃ us, us = (l.filter fun t => !(l.filter fun o => !metB pr t o).isEmpty).map fun _ => Val.int 1 := ⟨_, rfl⟩
        have huse : us.isEmpty = allMet pr l := by
          rw [← hfin, hus]
          cases l.filter fun t => !(l.filter fun o => !metB pr t o).isEmpty <;> rfl
        rw [← hus] at hout
        rw [hv2] at hc ⊢
        cases hri : rising l with
        | false =>
          have e : isML pr (rowV l) = false := by
            unfold isML
            rw [thOf_row, hri]
            cases areTh pr.length (rowV l) 1 pr.length <;> rfl
          rw [e]
          rw [hri] at a3
          simp -implicitDefEqProofs [runFn, p__law_is_met, undefd_row, b0, b1, b2, hlim, hc, hye, a1, a2, a3]
        | true =>
          have hln : l.length ≤ pr.length := by
            have := nodup_le (m := natsI pr.length) (((rising_iff l).mp hri).imp fun {a b} h => by omega) fun x hx => natsI_mem.mpr (hb x hx)
            rwa [natsI_len] at this
          have hl1 : 1 ≤ l.length := by
            cases l with
            | nil => rw [hxs] at e1; cases e1
            | cons _ _ => simp
          have e : isML pr (rowV l) = allMet pr l := by
            unfold isML
            rw [thOf_row, hri, areTh_row hb (by omega) (by omega)]
            rfl
          rw [e]
          rw [hri] at a3
          simp -implicitDefEqProofs [runFn, p__law_is_met, undefd_row, b0, b1, b2, hlim, hc, hye, a1, a2, a3, hout, huse]
  · have e : isML pr v = false := by
      cases v <;> first | rfl | exact absurd ⟨_, rfl⟩ ht
    rw [e]
    have e2 : isTy .tuple v = some false := by
      cases v <;> first | (cases hvd; done) | rfl | exact absurd ⟨_, rfl⟩ ht
    simp -implicitDefEqProofs [runFn, p__law_is_met, undefd_of hvd, e2]
end Mp
set_option Elab.async false
set_option linter.all false
set_option maxRecDepth 100000
set_option maxHeartbeats 0
/-! # the law's groups -/
namespace Mp
open PySem
def gB0 : List (List Int) := [[0]]
def gB1 : List (List Int) := [[0, 1], [1, 0]]
def gB2 : List (List Int) := [[0, 1, 2], [1, 2, 0], [2, 0, 1]]
def gB3 : List (List Int) := [[0, 1, 2, 3], [1, 2, 3, 0], [2, 3, 0, 1], [3, 0, 1, 2]]
def gB4 : List (List Int) := [[0, 1, 2, 3, 4], [1, 2, 3, 4, 0], [2, 3, 4, 0, 1], [3, 4, 0, 1, 2], [4, 0, 1, 2, 3]]
def gB5 : List (List Int) := [[0, 1, 2, 3, 4, 5], [1, 2, 3, 4, 5, 0], [2, 3, 4, 5, 0, 1], [3, 4, 5, 0, 1, 2], [4, 5, 0, 1, 2, 3], [5, 0, 1, 2, 3, 4]]
def gB6 : List (List Int) := [[0, 1, 2, 3, 4, 5, 6], [1, 2, 3, 4, 5, 6, 0], [2, 3, 4, 5, 6, 0, 1], [3, 4, 5, 6, 0, 1, 2], [4, 5, 6, 0, 1, 2, 3], [5, 6, 0, 1, 2, 3, 4], [6, 0, 1, 2, 3, 4, 5]]
def gB7 : List (List Int) := [[0, 1, 2, 3, 4, 5, 6, 7], [1, 2, 3, 4, 5, 6, 7, 0], [2, 3, 4, 5, 6, 7, 0, 1], [3, 4, 5, 6, 7, 0, 1, 2], [4, 5, 6, 7, 0, 1, 2, 3], [5, 6, 7, 0, 1, 2, 3, 4], [6, 7, 0, 1, 2, 3, 4, 5], [7, 0, 1, 2, 3, 4, 5, 6]]
def gB8 : List (List Int) := [[0, 1, 2, 3], [1, 0, 3, 2], [2, 3, 0, 1], [3, 2, 1, 0]]
def gB9 : List (List Int) := [[0, 1, 2, 3, 4, 5, 6, 7], [1, 0, 3, 2, 5, 4, 7, 6], [2, 3, 0, 1, 6, 7, 4, 5], [3, 2, 1, 0, 7, 6, 5, 4], [4, 5, 6, 7, 0, 1, 2, 3], [5, 4, 7, 6, 1, 0, 3, 2], [6, 7, 4, 5, 2, 3, 0, 1], [7, 6, 5, 4, 3, 2, 1, 0]]
def gB10 : List (List Int) := [[0, 1, 2, 3, 4, 5, 6, 7], [1, 2, 3, 0, 5, 6, 7, 4], [2, 3, 0, 1, 6, 7, 4, 5], [3, 0, 1, 2, 7, 4, 5, 6], [4, 5, 6, 7, 0, 1, 2, 3], [5, 6, 7, 4, 1, 2, 3, 0], [6, 7, 4, 5, 2, 3, 0, 1], [7, 4, 5, 6, 3, 0, 1, 2]]
def gB11 : List (List Int) := [[0, 1, 2, 3, 4, 5], [1, 2, 0, 4, 5, 3], [2, 0, 1, 5, 3, 4], [3, 5, 4, 0, 2, 1], [4, 3, 5, 1, 0, 2], [5, 4, 3, 2, 1, 0]]
def gB12 : List (List Int) := [[0, 1, 2, 3, 4, 5, 6, 7], [1, 2, 3, 0, 5, 6, 7, 4], [2, 3, 0, 1, 6, 7, 4, 5], [3, 0, 1, 2, 7, 4, 5, 6], [4, 7, 6, 5, 0, 3, 2, 1], [5, 4, 7, 6, 1, 0, 3, 2], [6, 5, 4, 7, 2, 1, 0, 3], [7, 6, 5, 4, 3, 2, 1, 0]]
def gB13 : List (List Int) := [[0, 1, 2, 3, 4, 5, 6, 7], [1, 2, 3, 0, 5, 6, 7, 4], [2, 3, 0, 1, 6, 7, 4, 5], [3, 0, 1, 2, 7, 4, 5, 6], [4, 7, 6, 5, 2, 1, 0, 3], [5, 4, 7, 6, 3, 2, 1, 0], [6, 5, 4, 7, 0, 3, 2, 1], [7, 6, 5, 4, 1, 0, 3, 2]]
def gB14 : List (List Int) := [[0, 1, 2, 3, 4, 5, 6, 7], [1, 0, 3, 2, 5, 4, 7, 6], [2, 3, 0, 1, 6, 7, 4, 5], [3, 2, 1, 0, 7, 6, 5, 4], [4, 5, 6, 7, 0, 1, 2, 3], [5, 4, 7, 6, 1, 0, 3, 2], [6, 7, 4, 5, 2, 3, 0, 1], [7, 6, 5, 4, 3, 2, 1, 0]]
def gBs : List (List (List Int)) := [gB0, gB1, gB2, gB3, gB4, gB5, gB6, gB7, gB8, gB9, gB10, gB11, gB12, gB13, gB14]
def gRest : List S := [.ite (.cmp .eq (.var 1) (.int 0)) [.asg 5 0 (.comp (.one 6) .range [(.var 3)] [] (.tup [(.var 6), (.int 0)]))] [.asg 5 0 (.bin .add (.comp (.one 6) .range [(.var 3)] [] (.tup [(.var 6), (.int 0)])) (.comp (.one 6) .range [(.var 3)] [] (.tup [(.var 6), (.int 1)])))], .loop (.tup [6, 7]) .plain [(.var 5)] [.asg 8 1 (.lst []), .loop (.tup [9, 10]) .plain [(.var 5)] [.asg 11 0 (.ite (.and (.cmp .eq (.var 7) (.int 1)) (.cmp2 .le .le (.int 4) (.var 1) (.int 6))) (.bin .sub (.int 0) (.var 9)) (.var 9)), .app 8 (.me .index (.var 5) [(.tup [(.bin .mod (.bi .int [(.bin .add (.bin .add (.var 6) (.var 11)) (.bin .mul (.bin .mul (.var 4) (.var 7)) (.var 10)))]) (.var 3)), (.bin .mod (.bi .int [(.bin .add (.var 7) (.var 10))]) (.int 2))])]), .kill [9, 10, 11]], .fz 8, .app 2 (.bi .tuple [(.var 8)]), .kill [6, 7, 8, 9, 10, 11]], .fz 2, .asg 2 0 (.bi .tuple [(.var 2)]), .fz 2, .ite (.cmp .isin (.var 1) (.tup [(.int 2), (.int 7)])) [.asg 2 0 (.call i__law_twice [(.var 2)] [] 1)] []]
theorem gE0 (n : Nat) (c : Val) : exs (callF p (n + 2)) gRest [c, .int 0, .lst [], .int 1, .int 0, .undef, .undef, .undef, .undef, .undef, .undef, .undef] = .nx [c, .int 0, prV gB0, .int 1, .int 0, .lst [.tup [.int 0, .int 0]], .undef, .undef, .undef, .undef, .undef, .undef] := by kernel_rfl
theorem gE1 (n : Nat) (c : Val) : exs (callF p (n + 2)) gRest [c, .int 0, .lst [], .int 2, .int 0, .undef, .undef, .undef, .undef, .undef, .undef, .undef] = .nx [c, .int 0, prV gB1, .int 2, .int 0, .lst [.tup [.int 0, .int 0], .tup [.int 1, .int 0]], .undef, .undef, .undef, .undef, .undef, .undef] := by kernel_rfl
theorem gE2 (n : Nat) (c : Val) : exs (callF p (n + 2)) gRest [c, .int 0, .lst [], .int 3, .int 0, .undef, .undef, .undef, .undef, .undef, .undef, .undef] = .nx [c, .int 0, prV gB2, .int 3, .int 0, .lst [.tup [.int 0, .int 0], .tup [.int 1, .int 0], .tup [.int 2, .int 0]], .undef, .undef, .undef, .undef, .undef, .undef] := by kernel_rfl
theorem gE3 (n : Nat) (c : Val) : exs (callF p (n + 2)) gRest [c, .int 0, .lst [], .int 4, .int 0, .undef, .undef, .undef, .undef, .undef, .undef, .undef] = .nx [c, .int 0, prV gB3, .int 4, .int 0, .lst [.tup [.int 0, .int 0], .tup [.int 1, .int 0], .tup [.int 2, .int 0], .tup [.int 3, .int 0]], .undef, .undef, .undef, .undef, .undef, .undef] := by kernel_rfl
theorem gE4 (n : Nat) (c : Val) : exs (callF p (n + 2)) gRest [c, .int 0, .lst [], .int 5, .int 0, .undef, .undef, .undef, .undef, .undef, .undef, .undef] = .nx [c, .int 0, prV gB4, .int 5, .int 0, .lst [.tup [.int 0, .int 0], .tup [.int 1, .int 0], .tup [.int 2, .int 0], .tup [.int 3, .int 0], .tup [.int 4, .int 0]], .undef, .undef, .undef, .undef, .undef, .undef] := by kernel_rfl
theorem gE5 (n : Nat) (c : Val) : exs (callF p (n + 2)) gRest [c, .int 0, .lst [], .int 6, .int 0, .undef, .undef, .undef, .undef, .undef, .undef, .undef] = .nx [c, .int 0, prV gB5, .int 6, .int 0, .lst [.tup [.int 0, .int 0], .tup [.int 1, .int 0], .tup [.int 2, .int 0], .tup [.int 3, .int 0], .tup [.int 4, .int 0], .tup [.int 5, .int 0]], .undef, .undef, .undef, .undef, .undef, .undef] := by kernel_rfl
theorem gE6 (n : Nat) (c : Val) : exs (callF p (n + 2)) gRest [c, .int 0, .lst [], .int 7, .int 0, .undef, .undef, .undef, .undef, .undef, .undef, .undef] = .nx [c, .int 0, prV gB6, .int 7, .int 0, .lst [.tup [.int 0, .int 0], .tup [.int 1, .int 0], .tup [.int 2, .int 0], .tup [.int 3, .int 0], .tup [.int 4, .int 0], .tup [.int 5, .int 0], .tup [.int 6, .int 0]], .undef, .undef, .undef, .undef, .undef, .undef] := by kernel_rfl
theorem gE7 (n : Nat) (c : Val) : exs (callF p (n + 2)) gRest [c, .int 0, .lst [], .int 8, .int 0, .undef, .undef, .undef, .undef, .undef, .undef, .undef] = .nx [c, .int 0, prV gB7, .int 8, .int 0, .lst [.tup [.int 0, .int 0], .tup [.int 1, .int 0], .tup [.int 2, .int 0], .tup [.int 3, .int 0], .tup [.int 4, .int 0], .tup [.int 5, .int 0], .tup [.int 6, .int 0], .tup [.int 7, .int 0]], .undef, .undef, .undef, .undef, .undef, .undef] := by kernel_rfl
theorem gE8 (n : Nat) (c : Val) : exs (callF p (n + 2)) gRest [c, .int 1, .lst [], .int 2, .int 0, .undef, .undef, .undef, .undef, .undef, .undef, .undef] = .nx [c, .int 1, prV gB8, .int 2, .int 0, .lst [.tup [.int 0, .int 0], .tup [.int 1, .int 0], .tup [.int 0, .int 1], .tup [.int 1, .int 1]], .undef, .undef, .undef, .undef, .undef, .undef] := by kernel_rfl
theorem gE9 (n : Nat) (c : Val) : exs (callF p (n + 2)) gRest [c, .int 2, .lst [], .int 2, .int 0, .undef, .undef, .undef, .undef, .undef, .undef, .undef] = .nx [c, .int 2, prV gB9, .int 2, .int 0, .lst [.tup [.int 0, .int 0], .tup [.int 1, .int 0], .tup [.int 0, .int 1], .tup [.int 1, .int 1]], .undef, .undef, .undef, .undef, .undef, .undef] := by kernel_rfl
theorem gE10 (n : Nat) (c : Val) : exs (callF p (n + 2)) gRest [c, .int 3, .lst [], .int 4, .int 0, .undef, .undef, .undef, .undef, .undef, .undef, .undef] = .nx [c, .int 3, prV gB10, .int 4, .int 0, .lst [.tup [.int 0, .int 0], .tup [.int 1, .int 0], .tup [.int 2, .int 0], .tup [.int 3, .int 0], .tup [.int 0, .int 1], .tup [.int 1, .int 1], .tup [.int 2, .int 1], .tup [.int 3, .int 1]], .undef, .undef, .undef, .undef, .undef, .undef] := by kernel_rfl
theorem gE11 (n : Nat) (c : Val) : exs (callF p (n + 2)) gRest [c, .int 4, .lst [], .int 3, .int 0, .undef, .undef, .undef, .undef, .undef, .undef, .undef] = .nx [c, .int 4, prV gB11, .int 3, .int 0, .lst [.tup [.int 0, .int 0], .tup [.int 1, .int 0], .tup [.int 2, .int 0], .tup [.int 0, .int 1], .tup [.int 1, .int 1], .tup [.int 2, .int 1]], .undef, .undef, .undef, .undef, .undef, .undef] := by kernel_rfl
theorem gE12 (n : Nat) (c : Val) : exs (callF p (n + 2)) gRest [c, .int 5, .lst [], .int 4, .int 0, .undef, .undef, .undef, .undef, .undef, .undef, .undef] = .nx [c, .int 5, prV gB12, .int 4, .int 0, .lst [.tup [.int 0, .int 0], .tup [.int 1, .int 0], .tup [.int 2, .int 0], .tup [.int 3, .int 0], .tup [.int 0, .int 1], .tup [.int 1, .int 1], .tup [.int 2, .int 1], .tup [.int 3, .int 1]], .undef, .undef, .undef, .undef, .undef, .undef] := by kernel_rfl
theorem gE13 (n : Nat) (c : Val) : exs (callF p (n + 2)) gRest [c, .int 6, .lst [], .int 4, .int 2, .undef, .undef, .undef, .undef, .undef, .undef, .undef] = .nx [c, .int 6, prV gB13, .int 4, .int 2, .lst [.tup [.int 0, .int 0], .tup [.int 1, .int 0], .tup [.int 2, .int 0], .tup [.int 3, .int 0], .tup [.int 0, .int 1], .tup [.int 1, .int 1], .tup [.int 2, .int 1], .tup [.int 3, .int 1]], .undef, .undef, .undef, .undef, .undef, .undef] := by kernel_rfl
theorem gE14 (n : Nat) (c : Val) : exs (callF p (n + 2)) gRest [c, .int 7, .lst [], .int 2, .int 0, .undef, .undef, .undef, .undef, .undef, .undef, .undef] = .nx [c, .int 7, prV gB14, .int 2, .int 0, .lst [.tup [.int 0, .int 0], .tup [.int 1, .int 0], .tup [.int 0, .int 1], .tup [.int 1, .int 1]], .undef, .undef, .undef, .undef, .undef, .undef] := by kernel_rfl
end Mp
set_option Elab.async false
set_option linter.all false
set_option maxRecDepth 100000
set_option maxHeartbeats 0
/-! # the law's groups, drawn -/
namespace Mp
open PySem
theorem exs_app (C : Nat → List Val → RC) : ∀ (a b : List S) (e : Env), exs C (a ++ b) e = seqO (exs C a e) (exs C b)
  | [], b, e => rfl
  | x :: a, b, e => by
    rw [List.cons_append, exs_cons, exs_cons]
    cases ex C x e with
    | nx e1 => exact exs_app C a b e1
    | _ => rfl
def prdB (b : List (List Int)) : Bool := Nat.ble 1 b.length && Nat.ble b.length 8 && (b.all fun r => Nat.beq r.length b.length) && b.all fun r => r.all fun x => decide (0 ≤ x) && decide (x < (b.length : Int))
theorem noLst_ints : ∀ l : List Int, noLsts (l.map .int) = true
  | [] => by rw [List.map_nil, noLsts]
  | a :: l => by rw [List.map_cons, noLsts, noLst_ints l, noLst]; rfl
theorem noLst_row (l : List Int) : noLst (rowV l) = true := by
  unfold rowV
  rw [noLst]
  exact noLst_ints l
theorem noLst_rows : ∀ l : List (List Int), noLsts (l.map rowV) = true
  | [] => by rw [List.map_nil, noLsts]
  | a :: l => by rw [List.map_cons, noLsts, noLst_rows l, noLst_row]; rfl
theorem noLst_pr (b : List (List Int)) : noLst (prV b) = true := by
  unfold prV
  rw [noLst]
  exact noLst_rows b
theorem prd_of {b : List (List Int)} (h : prdB b = true) : Prd b := by
  unfold prdB at h
  simp only [Bool.and_eq_true, List.all_eq_true, decide_eq_true_eq] at h
  exact ⟨Nat.le_of_ble_eq_true h.1.1.1, Nat.le_of_ble_eq_true h.1.1.2, fun l hl => Nat.eq_of_beq_eq_true (h.1.2 l hl), fun l hl x hx => h.2 l hl x hx⟩
theorem gBs_prd : ∀ b, b ∈ gBs → Prd b := by
  have h : gBs.all prdB = true := by decide +kernel
  exact fun b hb => prd_of (List.all_eq_true.mp h b hb)
def fiveB (b : List (List Int)) : Bool := let A := nPairs b / (gP b : Int); let B := ((b.length * b.length : Nat) : Int) / (gP b : Int); (A == 1 && B == 1) || decide (8 * A ≤ 5 * B)
theorem gBs_five : ∀ b, b ∈ gBs → fiveB b = true := by
  have h : gBs.all fiveB = true := by decide +kernel
  exact fun b hb => List.all_eq_true.mp h b hb
def gRet : S := .ret (.call i__law_led [(.var 2), (.call i__law_order [(.io 0), (.bi .len [(.var 2)])] [0] 0)] [] 1)
def gDone (n : Nat) (c : Val) (way size more : Int) : Prop := ∃ b v, b ∈ gBs ∧ exs (callF p (n + 2)) gRest [c, .int way, .lst [], .int size, .int more, .undef, .undef, .undef, .undef, .undef, .undef, .undef] = .nx [c, .int way, prV b, .int size, .int more, v, .undef, .undef, .undef, .undef, .undef, .undef]
theorem gD0 (n : Nat) (c : Val) : gDone n c 0 1 0 := ⟨gB0, _, by decide, gE0 n c⟩
theorem gD1 (n : Nat) (c : Val) : gDone n c 0 2 0 := ⟨gB1, _, by decide, gE1 n c⟩
theorem gD2 (n : Nat) (c : Val) : gDone n c 0 3 0 := ⟨gB2, _, by decide, gE2 n c⟩
theorem gD3 (n : Nat) (c : Val) : gDone n c 0 4 0 := ⟨gB3, _, by decide, gE3 n c⟩
theorem gD4 (n : Nat) (c : Val) : gDone n c 0 5 0 := ⟨gB4, _, by decide, gE4 n c⟩
theorem gD5 (n : Nat) (c : Val) : gDone n c 0 6 0 := ⟨gB5, _, by decide, gE5 n c⟩
theorem gD6 (n : Nat) (c : Val) : gDone n c 0 7 0 := ⟨gB6, _, by decide, gE6 n c⟩
theorem gD7 (n : Nat) (c : Val) : gDone n c 0 8 0 := ⟨gB7, _, by decide, gE7 n c⟩
theorem gD8 (n : Nat) (c : Val) : gDone n c 1 2 0 := ⟨gB8, _, by decide, gE8 n c⟩
theorem gD9 (n : Nat) (c : Val) : gDone n c 2 2 0 := ⟨gB9, _, by decide, gE9 n c⟩
theorem gD10 (n : Nat) (c : Val) : gDone n c 3 4 0 := ⟨gB10, _, by decide, gE10 n c⟩
theorem gD11 (n : Nat) (c : Val) : gDone n c 4 3 0 := ⟨gB11, _, by decide, gE11 n c⟩
theorem gD12 (n : Nat) (c : Val) : gDone n c 5 4 0 := ⟨gB12, _, by decide, gE12 n c⟩
theorem gD13 (n : Nat) (c : Val) : gDone n c 6 4 2 := ⟨gB13, _, by decide, gE13 n c⟩
theorem gD14 (n : Nat) (c : Val) : gDone n c 7 2 0 := ⟨gB14, _, by decide, gE14 n c⟩
theorem g_draw (n : Nat) (c : Val) (hc : Cup c) : ∃ (way size more : Int) (c2 : Val), exs (callF p (n + 2)) [.par [1, 2] [0, 1] [(.call i__law_roll [(.io 0), (.int 8)] [0] 0), (.lst [])], .asgT [3, 4] (.idx (.tup [(.tup [(.bin .add (.int 1) (.call i__law_roll [(.io 0), (.int 8)] [0] 0)), (.int 0)]), (.tup [(.int 2), (.int 0)]), (.tup [(.int 2), (.int 0)]), (.tup [(.int 4), (.int 0)]), (.tup [(.int 3), (.int 0)]), (.tup [(.int 4), (.int 0)]), (.tup [(.int 4), (.int 2)]), (.tup [(.int 2), (.int 0)])]) (.var 1))] [c, .undef, .undef, .undef, .undef, .undef, .undef, .undef, .undef, .undef, .undef, .undef] = .nx [c2, .int way, .lst [], .int size, .int more, .undef, .undef, .undef, .undef, .undef, .undef, .undef] ∧ Cup c2 ∧ ∀ c, gDone n c way size more := by
  obtain ⟨r, c1, e1, hr, hc1⟩ := sp_roll (n + 1) c 8 hc (by omega) (by omega)
  obtain ⟨k, c2, e2, hk, hc2⟩ := sp_roll (n + 1) c1 8 hc1 (by omega) (by omega)
  have hd := undefd_of (β := Bool) hc.dat
  have hd1 := undefd_of (β := Bool) hc1.dat
  have hcs : r = 0 ∨ r = 1 ∨ r = 2 ∨ r = 3 ∨ r = 4 ∨ r = 5 ∨ r = 6 ∨ r = 7 := by omega
  rcases hcs with e | e | e | e | e | e | e | e <;> subst e
  · refine ⟨0, 1 + k, 0, c2, ?_, hc2, ?_⟩
    · have hi : L2.atI ([.tup [.int (1 + k), .int 0], .tup [.int 2, .int 0], .tup [.int 2, .int 0], .tup [.int 4, .int 0], .tup [.int 3, .int 0], .tup [.int 4, .int 0], .tup [.int 4, .int 2], .tup [.int 2, .int 0]] : List Val) 0 = some (.tup [.int (1 + k), .int 0]) := rfl
      simp -implicitDefEqProofs [undefd_of hc.dat, undefd_of hc1.dat, e1, e2, hi]
    · have hk8 : k = 0 ∨ k = 1 ∨ k = 2 ∨ k = 3 ∨ k = 4 ∨ k = 5 ∨ k = 6 ∨ k = 7 := by omega
      rcases hk8 with e | e | e | e | e | e | e | e <;> subst e <;> intro c
      · exact gD0 n c
      · exact gD1 n c
      · exact gD2 n c
      · exact gD3 n c
      · exact gD4 n c
      · exact gD5 n c
      · exact gD6 n c
      · exact gD7 n c
  · refine ⟨1, 2, 0, c2, ?_, hc2, fun c => gD8 n c⟩
    have hi : L2.atI ([.tup [.int (1 + k), .int 0], .tup [.int 2, .int 0], .tup [.int 2, .int 0], .tup [.int 4, .int 0], .tup [.int 3, .int 0], .tup [.int 4, .int 0], .tup [.int 4, .int 2], .tup [.int 2, .int 0]] : List Val) 1 = some (.tup [.int 2, .int 0]) := rfl
    simp -implicitDefEqProofs [undefd_of hc.dat, undefd_of hc1.dat, e1, e2, hi]
  · refine ⟨2, 2, 0, c2, ?_, hc2, fun c => gD9 n c⟩
    have hi : L2.atI ([.tup [.int (1 + k), .int 0], .tup [.int 2, .int 0], .tup [.int 2, .int 0], .tup [.int 4, .int 0], .tup [.int 3, .int 0], .tup [.int 4, .int 0], .tup [.int 4, .int 2], .tup [.int 2, .int 0]] : List Val) 2 = some (.tup [.int 2, .int 0]) := rfl
    simp -implicitDefEqProofs [undefd_of hc.dat, undefd_of hc1.dat, e1, e2, hi]
  · refine ⟨3, 4, 0, c2, ?_, hc2, fun c => gD10 n c⟩
    have hi : L2.atI ([.tup [.int (1 + k), .int 0], .tup [.int 2, .int 0], .tup [.int 2, .int 0], .tup [.int 4, .int 0], .tup [.int 3, .int 0], .tup [.int 4, .int 0], .tup [.int 4, .int 2], .tup [.int 2, .int 0]] : List Val) 3 = some (.tup [.int 4, .int 0]) := rfl
    simp -implicitDefEqProofs [undefd_of hc.dat, undefd_of hc1.dat, e1, e2, hi]
  · refine ⟨4, 3, 0, c2, ?_, hc2, fun c => gD11 n c⟩
    have hi : L2.atI ([.tup [.int (1 + k), .int 0], .tup [.int 2, .int 0], .tup [.int 2, .int 0], .tup [.int 4, .int 0], .tup [.int 3, .int 0], .tup [.int 4, .int 0], .tup [.int 4, .int 2], .tup [.int 2, .int 0]] : List Val) 4 = some (.tup [.int 3, .int 0]) := rfl
    simp -implicitDefEqProofs [undefd_of hc.dat, undefd_of hc1.dat, e1, e2, hi]
  · refine ⟨5, 4, 0, c2, ?_, hc2, fun c => gD12 n c⟩
    have hi : L2.atI ([.tup [.int (1 + k), .int 0], .tup [.int 2, .int 0], .tup [.int 2, .int 0], .tup [.int 4, .int 0], .tup [.int 3, .int 0], .tup [.int 4, .int 0], .tup [.int 4, .int 2], .tup [.int 2, .int 0]] : List Val) 5 = some (.tup [.int 4, .int 0]) := rfl
    simp -implicitDefEqProofs [undefd_of hc.dat, undefd_of hc1.dat, e1, e2, hi]
  · refine ⟨6, 4, 2, c2, ?_, hc2, fun c => gD13 n c⟩
    have hi : L2.atI ([.tup [.int (1 + k), .int 0], .tup [.int 2, .int 0], .tup [.int 2, .int 0], .tup [.int 4, .int 0], .tup [.int 3, .int 0], .tup [.int 4, .int 0], .tup [.int 4, .int 2], .tup [.int 2, .int 0]] : List Val) 6 = some (.tup [.int 4, .int 2]) := rfl
    simp -implicitDefEqProofs [undefd_of hc.dat, undefd_of hc1.dat, e1, e2, hi]
  · refine ⟨7, 2, 0, c2, ?_, hc2, fun c => gD14 n c⟩
    have hi : L2.atI ([.tup [.int (1 + k), .int 0], .tup [.int 2, .int 0], .tup [.int 2, .int 0], .tup [.int 4, .int 0], .tup [.int 3, .int 0], .tup [.int 4, .int 0], .tup [.int 4, .int 2], .tup [.int 2, .int 0]] : List Val) 7 = some (.tup [.int 2, .int 0]) := rfl
    simp -implicitDefEqProofs [undefd_of hc.dat, undefd_of hc1.dat, e1, e2, hi]
theorem sp_law_group (n : Nat) (c : Val) (hc : Cup c) : ∃ (b : List (List Int)) (row : List Int) (c' : Val), callF p (n + 3) i__law_group [c] = .ok (prV (ledP b row)) [c'] ∧ b ∈ gBs ∧ Pm b.length row ∧ Cup c' := by
  rw [callF_succ, fn__law_group]
  suffices q : ∃ w outs, endO [1] (exs (callF p (n + 2)) p__law_group.body [c, .undef, .undef, .undef, .undef, .undef, .undef, .undef, .undef, .undef, .undef, .undef]) = .ok w outs ∧ (∃ (b : List (List Int)) (row : List Int) (c' : Val), w = prV (ledP b row) ∧ outs = [c'] ∧ b ∈ gBs ∧ Pm b.length row ∧ Cup c') by
    obtain ⟨w, outs, q, b, row, c', rfl, rfl, h1, h2, h3⟩ := q
    exact ⟨b, row, c', q, h1, h2, h3⟩
  refine call_wp ?_
  obtain ⟨way, size, more, c2, h1, hc2, hd⟩ := g_draw n c hc
  obtain ⟨b, v, hb, h2⟩ := hd c2
  have hp := gBs_prd b hb
  have h8 := hp.le
  obtain ⟨row, c3, h3, hr, hc3⟩ := sp_law_order n c2 b.length hc2 (by omega)
  have h4 := sp_law_led (n + 1) hp hr
  have eb : p__law_group.body = [.par [1, 2] [0, 1] [(.call i__law_roll [(.io 0), (.int 8)] [0] 0), (.lst [])], .asgT [3, 4] (.idx (.tup [(.tup [(.bin .add (.int 1) (.call i__law_roll [(.io 0), (.int 8)] [0] 0)), (.int 0)]), (.tup [(.int 2), (.int 0)]), (.tup [(.int 2), (.int 0)]), (.tup [(.int 4), (.int 0)]), (.tup [(.int 3), (.int 0)]), (.tup [(.int 4), (.int 0)]), (.tup [(.int 4), (.int 2)]), (.tup [(.int 2), (.int 0)])]) (.var 1))] ++ (gRest ++ [gRet]) := rfl
  rw [eb, exs_app, h1, seqO_nx, exs_app, h2, seqO_nx]
  simp -implicitDefEqProofs [gRet, undefd_pr, undefd_row, len_pr, undefd_of hc2.dat, h3, h4, noLst_pr]
  exact ⟨b, row, rfl, hb, hr, hc3⟩
end Mp
set_option Elab.async false
set_option linter.all false
set_option maxRecDepth 100000
set_option maxHeartbeats 0
/-! # the law's judgement of one product -/
namespace Mp
open PySem
theorem like3 (v : Val) (h : dat 1000 v = true) (hd : dep v ≤ 10) : callF p 18 i__law_like [v, v] = .ok (.bl true) [] := sp_like 1000 (by omega) 10 6 v h hd
theorem dat_of {m : Nat} {xs : List Val} (h : xs.length ≤ m) (hx : ∀ x, x ∈ xs → dat m x = true) : dat m (.lst xs) = true := dat_lst.mpr ⟨h, hx⟩
theorem dat_ofT {m : Nat} {xs : List Val} (h : xs.length ≤ m) (hx : ∀ x, x ∈ xs → dat m x = true) : dat m (.tup xs) = true := dat_tup.mpr ⟨h, hx⟩
theorem dat_lrw (l : List Int) (m : Nat) (h : l.length ≤ m) : dat m (lrw l) = true := by
  unfold lrw
  rw [dat_lst]
  refine ⟨by rw [List.length_map]; exact h, fun x hx => ?_⟩
  obtain ⟨i, _, rfl⟩ := List.mem_map.mp hx
  simp
theorem deps_ints0 : ∀ l : List Int, deps (l.map .int) = 0
  | [] => rfl
  | a :: l => by
    rw [List.map_cons, deps, deps_ints0 l]
    rfl
theorem dep_lrw (l : List Int) : dep (lrw l) ≤ 1 := by
  unfold lrw
  rw [dep, deps_ints0]
  exact Nat.le_refl _
theorem dep_rowV (l : List Int) : dep (rowV l) ≤ 1 := by
  unfold rowV
  rw [dep, deps_ints0]
  exact Nat.le_refl _
theorem deps_le' {d : Nat} : ∀ {xs : List Val}, (∀ x, x ∈ xs → dep x ≤ d) → deps xs ≤ d
  | [], _ => Nat.zero_le _
  | x :: xs, h => by
    rw [deps]
    have h1 := h x (by simp)
    have h2 := deps_le' (xs := xs) fun y hy => h y (by simp [hy])
    omega
theorem dep_lst' {d : Nat} {xs : List Val} (h : ∀ x, x ∈ xs → dep x ≤ d) : dep (.lst xs) ≤ d + 1 := by
  rw [dep]
  exact Nat.succ_le_succ (deps_le' h)
theorem dep_tup' {d : Nat} {xs : List Val} (h : ∀ x, x ∈ xs → dep x ≤ d) : dep (.tup xs) ≤ d + 1 := by
  rw [dep]
  exact Nat.succ_le_succ (deps_le' h)
theorem sort_ints (l : List Int) : bifn .sorted [lrw l] = some (lrw (sortI l)) := by
  show sortX (.lst (l.map .int)) = _
  unfold sortX
  rw [show seqOf (.lst (l.map Val.int)) = some (l.map Val.int) from rfl, obind_some, intsV_ints]
  rfl
theorem sortI_perm2 {l m : List Int} (h : l.Perm m) : sortI l = sortI m := sortI_of ((sortI_perm l).trans h) (sortI_sorted l)
theorem isML_lot {pr : List (List Int)} {l : List Int} (hl : l ∈ lotsA (natsI pr.length)) : isML pr (rowV l) = goodB pr l := by
  unfold isML goodB
  rw [thOf_row, (rising_iff l).mpr (lot_srt hl), Bool.true_and]
  congr 1
  cases l with
  | nil => rfl
  | cons a l =>
    rw [areTh_row (lot_below hl) (by rw [List.length_cons]; omega) (by have := lot_len hl; omega)]
    rfl
theorem met_has {pr : List (List Int)} {t s : Int} (hs : 0 ≤ s ∧ s < pr.length) : (metRow pr t).contains s = metB pr t s := by
  rw [Bool.eq_iff_iff, List.contains_iff_mem]
  unfold metRow
  rw [List.mem_filter, natsI_mem]
  exact ⟨fun h => h.2, fun h => ⟨hs, h⟩⟩
theorem good_zero {pr : List (List Int)} (hp : Prd pr) : [(0 : Int)] ∈ goodL pr := by
  unfold goodL
  rw [List.mem_filter]
  refine ⟨(mem_lotsA _ _).mpr ?_, ?_⟩
  · have h0 : (0 : Int) ∈ natsI pr.length := natsI_mem.mpr ⟨Int.le_refl 0, by have := hp.pos; omega⟩
    exact List.singleton_sublist.mpr h0
  · simp [goodB, allMet, metB]
theorem good_len (pr : List (List Int)) (h8 : pr.length ≤ 8) : (goodL pr).length ≤ 256 := by
  unfold goodL
  have h1 := List.length_filter_le (goodB pr) (lotsA (natsI pr.length))
  rw [lotsA_len] at h1
  have h2 : 2 ^ pr.length ≤ 2 ^ 8 := Nat.pow_le_pow_right (by omega) h8
  omega
theorem full_len (pr : List (List Int)) (h8 : pr.length ≤ 8) : (fullL pr).length ≤ 256 := by
  unfold fullL
  have h1 := List.length_filter_le (fullB pr) (lotsM pr (natsI pr.length))
  have h3 := lotsM_len pr pr.length
  have h2 : 2 ^ pr.length ≤ 2 ^ 8 := Nat.pow_le_pow_right (by omega) h8
  omega
theorem full_elen {pr : List (List Int)} {l : List Int} (h : l ∈ fullL pr) : l.length ≤ pr.length := lot_len (lotsM_sub pr (List.mem_filter.mp h).1)
theorem sorted_full_dat (pr : List (List Int)) (h8 : pr.length ≤ 8) : dat 1000 (.tup ((sortR (fullL pr)).map rowV)) = true ∧ dep (.tup ((sortR (fullL pr)).map rowV)) ≤ 2 := by
  have hl := (sortR_perm (fullL pr)).length_eq
  have hf := full_len pr h8
  refine ⟨dat_ofT (by rw [List.length_map]; omega) fun x hx => ?_, dep_tup' fun x hx => ?_⟩
  · obtain ⟨l, hl2, rfl⟩ := List.mem_map.mp hx
    have := full_elen ((sortR_perm _).mem_iff.mp hl2)
    exact row_dat l 1000 (by omega)
  · obtain ⟨l, _, rfl⟩ := List.mem_map.mp hx
    exact dep_rowV l
theorem cEq_isE (xs : List Val) : cEq (.lst xs) (.lst []) = some xs.isEmpty := cEq_lnil xs
theorem map_isE {α β : Type} (f : α → β) (l : List α) : (l.map f).isEmpty = l.isEmpty := by cases l <;> rfl
theorem slc_last (l : List Int) (h : 1 ≤ l.length) : slcV (rowV l) [.int (-1)] [] = some (rowV (l.drop (l.length - 1))) := by
  show some (Val.tup (cutL (l.map Val.int) (some (-1)) none)) = _
  have e : cutL (l.map Val.int) (some (-1)) none = (l.drop (l.length - 1)).map Val.int := by
    unfold cutL
    have e1 : HT.sIx (l.map Val.int).length 0 (some (-1)) = l.length - 1 := by
      show (if (-1 : Int) < 0 then ((-1 : Int) + ((l.map Val.int).length : Int)).toNat else min (-1 : Int).toNat (l.map Val.int).length) = _
      rw [if_pos (by decide), List.length_map]
      omega
    rw [e1]
    have e2 : HT.sIx (l.map Val.int).length (l.map Val.int).length none = (l.map Val.int).length := rfl
    rw [e2, List.take_of_length_le (by rw [List.length_drop]; omega), List.map_drop]
  rw [e]
  rfl
def mets (pr : List (List Int)) : List Val := (natsI pr.length).map fun t => lrw (metRow pr t)
theorem mets_at {pr : List (List Int)} {t : Int} (ht : 0 ≤ t ∧ t < pr.length) : idxV (.lst (mets pr)) (.int t) = some (lrw (metRow pr t)) := by
  show L2.atI ((natsI pr.length).map fun t => lrw (metRow pr t)) t = _
  rw [atI_map, atI_int ht.1 (by rw [natsI_len]; exact ht.2)]
  have h := natsI_get (show t.toNat < pr.length by omega)
  rw [h]
  show some (lrw (metRow pr ((t.toNat : Nat) : Int))) = _
  rw [show ((t.toNat : Nat) : Int) = t by omega]
theorem sp_right46 (c : Val) {pr : List (List Int)} (hc : Cup c) (hp : Prd pr) : ∃ c', callF p 19 i__law_right [c, prV pr] = .ok (.bl true) [c'] ∧ Cup c' := by
  rw [show (19 : Nat) = 18 + 1 from rfl, callF_succ, fn__law_right]
  suffices q : ∃ w outs, endO [1, 0] (exs (callF p 18) p__law_right.body [c, prV pr, .undef, .undef, .undef, .undef, .undef, .undef, .undef, .undef, .undef, .undef, .undef, .undef, .undef, .undef, .undef, .undef, .undef, .undef]) = .ok w outs ∧ (w = .bl true ∧ ∃ c', outs = [c'] ∧ Cup c') by
    obtain ⟨w, outs, q, rfl, c', rfl, q1⟩ := q
    exact ⟨c', q, q1⟩
  refine call_wp ?_
  have h8 := hp.le
  have h1 := hp.pos
  have hrg := bi_rgF pr.length (by omega)
  rw [show Val.lst ((natsI pr.length).map Val.int) = lrw (natsI pr.length) from rfl] at hrg
  have hit : items .plain [lrw (natsI pr.length)] = some ((natsI pr.length).map .int) := rfl
  have hnl := nats_lim pr.length (by omega)
  have hml : (mets pr).length ≤ 8 := by unfold mets; rw [List.length_map, natsI_len]; exact h8
  simp -implicitDefEqProofs only [p__law_right]
  have s0 : ex (callF p 18) (.par [2, 3] [0, 0] [(.bi .len [(.var 1)]), (.bi (.rg false) [(.bi .len [(.var 1)])])]) [c, prV pr, .undef, .undef, .undef, .undef, .undef, .undef, .undef, .undef, .undef, .undef, .undef, .undef, .undef, .undef, .undef, .undef, .undef, .undef] = .nx [c, prV pr, .int pr.length, lrw (natsI pr.length), .undef, .undef, .undef, .undef, .undef, .undef, .undef, .undef, .undef, .undef, .undef, .undef, .undef, .undef, .undef, .undef] := by
    simp -implicitDefEqProofs [-bifn_tuple, -bifn_list, undefd_pr, undefd_lrw, undefd_row, len_pr, hrg]
  have c1 : compN (.one 6) (testOf (evs (callF p 18) [])) (ev (callF p 18) (.comp (.one 5) .plain [(.var 3)] [(.cmp .eq (.idx (.idx (.var 1) (.var 6)) (.var 5)) (.idx (.idx (.var 1) (.var 5)) (.var 6)))] (.var 5))) ((natsI pr.length).map .int) [c, prV pr, .int pr.length, lrw (natsI pr.length), .undef, .undef, .undef, .undef, .undef, .undef, .undef, .undef, .undef, .undef, .undef, .undef, .undef, .undef, .undef, .undef] = .ok (mets pr) [c, prV pr, .int pr.length, lrw (natsI pr.length), .undef, .undef, .undef, .undef, .undef, .undef, .undef, .undef, .undef, .undef, .undef, .undef, .undef, .undef, .undef, .undef] := by
    refine comp_list Val.int (fun t => lrw (metRow pr t)) (natsI pr.length) fun t ht => ?_
    have ht := natsI_mem.mp ht
    have hc := comp_listF (t := .one 5) (cond := testOf (evs (callF p 18) [(.cmp .eq (.idx (.idx (.var 1) (.var 6)) (.var 5)) (.idx (.idx (.var 1) (.var 5)) (.var 6)))])) (elt := ev (callF p 18) (.var 5)) (e := [c, prV pr, .int pr.length, lrw (natsI pr.length), .undef, .undef, .int t, .undef, .undef, .undef, .undef, .undef, .undef, .undef, .undef, .undef, .undef, .undef, .undef, .undef]) (metB pr t) Val.int Val.int (natsI pr.length) fun o ho => by
      have ho := natsI_mem.mp ho
      refine ⟨[c, prV pr, .int pr.length, lrw (natsI pr.length), .undef, .int o, .int t, .undef, .undef, .undef, .undef, .undef, .undef, .undef, .undef, .undef, .undef, .undef, .undef, .undef], rfl, rfl, ?_, fun _ => by simp -implicitDefEqProofs⟩
      rw [testOf_one]
      simp -implicitDefEqProofs [undefd_pr, undefd_row, idx_pr ht.1 ht.2, idx_pr ho.1 ho.2, hp.at2 ht ho, hp.at2 ho ht]
      rfl
    obtain ⟨nv, hnv⟩ : ∃ nv, nv = (natsI pr.length).map Val.int := ⟨_, rfl⟩
    rw [← hnv] at hit hnl hc
    refine ⟨[c, prV pr, .int pr.length, lrw (natsI pr.length), .undef, .undef, .int t, .undef, .undef, .undef, .undef, .undef, .undef, .undef, .undef, .undef, .undef, .undef, .undef, .undef], rfl, rfl, ?_⟩
    simp -implicitDefEqProofs [undefd_lrw, hit, hnl, hc]
    rfl
  obtain ⟨mv, hmv⟩ : ∃ mv, mv = mets pr := ⟨_, rfl⟩
  obtain ⟨nv, hnv⟩ : ∃ nv, nv = (natsI pr.length).map Val.int := ⟨_, rfl⟩
  rw [← hnv] at hit hnl c1
  rw [← hmv] at c1 hml
  have hma : ∀ t : Int, 0 ≤ t ∧ t < pr.length → L2.atI mv t = some (lrw (metRow pr t)) := fun t ht => by
    rw [hmv]; exact mets_at ht
  have s1 : ex (callF p 18) (.asg 4 0 (.comp (.one 6) .plain [(.var 3)] [] (.comp (.one 5) .plain [(.var 3)] [(.cmp .eq (.idx (.idx (.var 1) (.var 6)) (.var 5)) (.idx (.idx (.var 1) (.var 5)) (.var 6)))] (.var 5)))) [c, prV pr, .int pr.length, lrw (natsI pr.length), .undef, .undef, .undef, .undef, .undef, .undef, .undef, .undef, .undef, .undef, .undef, .undef, .undef, .undef, .undef, .undef] = .nx [c, prV pr, .int pr.length, lrw (natsI pr.length), .lst mv, .undef, .undef, .undef, .undef, .undef, .undef, .undef, .undef, .undef, .undef, .undef, .undef, .undef, .undef, .undef] := by
    simp -implicitDefEqProofs [-bifn_tuple, -bifn_list, undefd_pr, undefd_lrw, undefd_row, hit, hnl, c1]
  obtain ⟨t, c1', e1, ht, hc1⟩ := sp_roll 17 c pr.length hc (by omega) (by omega)
  obtain ⟨s, c2, e2, hs, hc2⟩ := sp_roll 17 c1' pr.length hc1 (by omega) (by omega)
  have c2' : compN (.one 9) (testOf (evs (callF p 18) [])) (ev (callF p 18) (.bi .len [(.var 9)])) mv [c, prV pr, .int pr.length, lrw (natsI pr.length), .lst mv, .undef, .undef, .undef, .undef, .undef, .undef, .undef, .undef, .undef, .undef, .undef, .undef, .undef, .undef, .undef] = .ok (((natsI pr.length).map fun t => ((metRow pr t).length : Int)).map .int) [c, prV pr, .int pr.length, lrw (natsI pr.length), .lst mv, .undef, .undef, .undef, .undef, .undef, .undef, .undef, .undef, .undef, .undef, .undef, .undef, .undef, .undef, .undef] := by
    rw [List.map_map]
    conv => lhs; arg 4; rw [hmv]
    unfold mets
    refine comp_list (fun t => lrw (metRow pr t)) (Val.int ∘ fun t => ((metRow pr t).length : Int)) (natsI pr.length) fun t _ => ⟨[c, prV pr, .int pr.length, lrw (natsI pr.length), .lst mv, .undef, .undef, .undef, .undef, lrw (metRow pr t), .undef, .undef, .undef, .undef, .undef, .undef, .undef, .undef, .undef, .undef], rfl, rfl, ?_⟩
    simp -implicitDefEqProofs [undefd_lrw, len_lrw]
  have hsum := sum_lrw ((natsI pr.length).map fun t => ((metRow pr t).length : Int))
  rw [show ((natsI pr.length).map fun t => ((metRow pr t).length : Int)).sum = nPairs pr from rfl] at hsum
  unfold lrw at hsum
  obtain ⟨lv, hlv⟩ : ∃ lv, lv = ((natsI pr.length).map fun t => ((metRow pr t).length : Int)).map Val.int := ⟨_, rfl⟩
  rw [← hlv] at hsum c2'
  have s2 : ex (callF p 18) (.par [7, 6, 8] [0, 0, 0] [(.bi .sum [(.comp (.one 9) .plain [(.var 4)] [] (.bi .len [(.var 9)]))]), (.call i__law_roll [(.io 0), (.var 2)] [0] 0), (.call i__law_roll [(.io 0), (.var 2)] [0] 0)]) [c, prV pr, .int pr.length, lrw (natsI pr.length), .lst mv, .undef, .undef, .undef, .undef, .undef, .undef, .undef, .undef, .undef, .undef, .undef, .undef, .undef, .undef, .undef] = .nx [c2, prV pr, .int pr.length, lrw (natsI pr.length), .lst mv, .undef, .int t, .int (nPairs pr), .int s, .undef, .undef, .undef, .undef, .undef, .undef, .undef, .undef, .undef, .undef, .undef] := by
    simp -implicitDefEqProofs [-bifn_tuple, -bifn_list, undefd_pr, undefd_lrw, undefd_row, undefd_of hc.dat, undefd_of hc1.dat, e1, e2, lim_le (show mv.length ≤ 100000 by omega), c2', hsum]
  have hN2 : pr.length * pr.length ≤ 8 * 8 := Nat.mul_le_mul h8 h8
  obtain ⟨P, hP⟩ : ∃ P : Nat, nPairs pr = (P : Int) := ⟨(nPairs pr).toNat, by have := nPairs_nn pr; omega⟩
  have hg := gP_pos hp
  have eg : Nat.gcd P (pr.length * pr.length) = gP pr := by
    unfold gP
    rw [hP, Int.toNat_natCast]
  have f3 := sp__law_common 17 P (pr.length * pr.length) (by omega)
  rw [eg] at f3
  have hm : bMul (.int (pr.length : Int)) (.int (pr.length : Int)) = some (.int ((pr.length * pr.length : Nat) : Int)) := by
    rw [bMul_int _ _ (.inl (small_of (by omega) (by omega))), Int.natCast_mul]
  have d1 := bDiv_int (nPairs pr) (gP pr : Int) (by omega) (by omega)
  have d2 := bDiv_int ((pr.length * pr.length : Nat) : Int) (gP pr : Int) (by omega) (by omega)
  rw [← hP] at f3
  have hsh : shareV pr = .tup [.int (nPairs pr / (gP pr : Int)), .int (((pr.length * pr.length : Nat) : Int) / (gP pr : Int))] := rfl
  obtain ⟨W, hW⟩ : ∃ W : Int, W = ((pr.length * pr.length : Nat) : Int) := ⟨_, rfl⟩
  rw [← hW] at f3 hm d2 hsh
  have s3 : ex (callF p 18) (.asg 10 0 (.call i__law_common [(.var 7), (.bin .mul (.var 2) (.var 2))] [] 0)) [c2, prV pr, .int pr.length, lrw (natsI pr.length), .lst mv, .undef, .int t, .int (nPairs pr), .int s, .undef, .undef, .undef, .undef, .undef, .undef, .undef, .undef, .undef, .undef, .undef] = .nx [c2, prV pr, .int pr.length, lrw (natsI pr.length), .lst mv, .undef, .int t, .int (nPairs pr), .int s, .undef, .int (gP pr : Int), .undef, .undef, .undef, .undef, .undef, .undef, .undef, .undef, .undef] := by
    simp -implicitDefEqProofs [-bifn_tuple, -bifn_list, undefd_pr, undefd_lrw, undefd_row, hm, f3]
  have g1 := sp_do_meet 12 hp ht hs
  have g2 := sp_meeting_things 12 hp ht
  have g3 := sp_count_meeting_pairs 12 hp
  have g4 := sp_meeting_share 12 hp
  have hshd : dat 1000 (shareV pr) = true ∧ dep (shareV pr) ≤ 1 := by
    unfold shareV
    exact ⟨row_dat [_, _] 1000 (by simp), dep_rowV [_, _]⟩
  have ush : ∀ {β : Type} (z k : β), undefd (shareV pr) z k = k := fun _ _ => rfl
  have hmr : (metRow pr t).length ≤ 8 := by
    unfold metRow
    have := List.length_filter_le (metB pr t) (natsI pr.length)
    rw [natsI_len] at this
    omega
  obtain ⟨tv, htv⟩ : ∃ tv, tv = Val.lst [.bl (metB pr t s), rowV (metRow pr t), .int (nPairs pr), shareV pr] := ⟨_, rfl⟩
  have g5 := like3 tv (by
    rw [htv]
    refine dat_of (by simp) fun x hx => ?_
    simp only [List.mem_cons, List.not_mem_nil, or_false] at hx
    rcases hx with e | e | e | e <;> subst e
    · simp
    · exact row_dat _ _ (by omega)
    · simp
    · exact hshd.1) (by
    rw [htv]
    refine Nat.le_trans (dep_lst' (d := 1) fun x hx => ?_) (by omega)
    simp only [List.mem_cons, List.not_mem_nil, or_false] at hx
    rcases hx with e | e | e | e <;> subst e
    · simp [dep]
    · exact dep_rowV _
    · simp [dep]
    · exact hshd.2)
  have s4 : ex (callF p 18) (.asg 11 0 (.lst [(.call i_do_meet [(.var 1), (.var 6), (.var 8)] [] 0), (.call i_meeting_things [(.var 1), (.var 6)] [] 0), (.call i_count_meeting_pairs [(.var 1)] [] 0), (.call i_meeting_share [(.var 1)] [] 0)])) [c2, prV pr, .int pr.length, lrw (natsI pr.length), .lst mv, .undef, .int t, .int (nPairs pr), .int s, .undef, .int (gP pr : Int), .undef, .undef, .undef, .undef, .undef, .undef, .undef, .undef, .undef] = .nx [c2, prV pr, .int pr.length, lrw (natsI pr.length), .lst mv, .undef, .int t, .int (nPairs pr), .int s, .undef, .int (gP pr : Int), .lst [.bl (metB pr t s), rowV (metRow pr t), .int (nPairs pr), shareV pr], .undef, .undef, .undef, .undef, .undef, .undef, .undef, .undef] := by
    simp -implicitDefEqProofs [-bifn_tuple, -bifn_list, undefd_pr, undefd_lrw, undefd_row, g1, g2, g3, g4]
  have g6 := isIn_lrw s (metRow pr t)
  rw [met_has hs] at g6
  have g7 := tup_lrw (metRow pr t)
  rw [htv] at g5
  have s5 : ex (callF p 18) (.ite (.not (.call i__law_like [(.var 11), (.lst [(.cmp .isin (.var 8) (.idx (.var 4) (.var 6))), (.bi .tuple [(.idx (.var 4) (.var 6))]), (.var 7), (.tup [(.bi .int [(.bin .fdiv (.var 7) (.var 10))]), (.bi .int [(.bin .fdiv (.bin .mul (.var 2) (.var 2)) (.var 10))])])])] [] 0)) [.ret (.bl false)] []) [c2, prV pr, .int pr.length, lrw (natsI pr.length), .lst mv, .undef, .int t, .int (nPairs pr), .int s, .undef, .int (gP pr : Int), .lst [.bl (metB pr t s), rowV (metRow pr t), .int (nPairs pr), shareV pr], .undef, .undef, .undef, .undef, .undef, .undef, .undef, .undef] = .nx [c2, prV pr, .int pr.length, lrw (natsI pr.length), .lst mv, .undef, .int t, .int (nPairs pr), .int s, .undef, .int (gP pr : Int), .lst [.bl (metB pr t s), rowV (metRow pr t), .int (nPairs pr), shareV pr], .undef, .undef, .undef, .undef, .undef, .undef, .undef, .undef] := by
    simp -implicitDefEqProofs [-bifn_tuple, undefd_pr, undefd_lrw, undefd_row, ush, hma t ht, g6, g7, hm, d1, d2, ← hsh, g5]
  obtain ⟨tl, htl⟩ : ∃ tl, tl = Val.lst [.bl (metB pr t s), rowV (metRow pr t), .int (nPairs pr), shareV pr] := ⟨_, rfl⟩
  rw [← htl] at s4 s5
  have hts : (natsI pr.length).length ≤ 8 := by rw [natsI_len]; exact h8
  have f6 := sp_law_lots 17 (natsI pr.length) hts
  have c6 : compN (.one 13) (testOf (evs (callF p 18) [(.call i__law_is_met [(.var 1), (.var 13)] [] 0)])) (ev (callF p 18) (.var 13)) ((lotsA (natsI pr.length)).map rowV) [c2, prV pr, .int pr.length, lrw (natsI pr.length), .lst mv, .undef, .int t, .int (nPairs pr), .int s, .undef, .int (gP pr : Int), tl, .undef, .undef, .undef, .undef, .undef, .undef, .undef, .undef] = .ok ((goodL pr).map rowV) [c2, prV pr, .int pr.length, lrw (natsI pr.length), .lst mv, .undef, .int t, .int (nPairs pr), .int s, .undef, .int (gP pr : Int), tl, .undef, .undef, .undef, .undef, .undef, .undef, .undef, .undef] := by
    unfold goodL
    refine comp_listF (goodB pr) rowV rowV _ fun l hl => ?_
    have h := sp_law_is_met 16 hp (rowV l) (row_dat l 60 (by have := lot_len hl; omega))
    rw [isML_lot hl] at h
    refine ⟨[c2, prV pr, .int pr.length, lrw (natsI pr.length), .lst mv, .undef, .int t, .int (nPairs pr), .int s, .undef, .int (gP pr : Int), tl, .undef, rowV l, .undef, .undef, .undef, .undef, .undef, .undef], rfl, rfl, ?_, fun _ => by simp -implicitDefEqProofs [undefd_row]⟩
    rw [testOf_one]
    simp -implicitDefEqProofs [undefd_pr, undefd_row, h]
  have hll := lotsA_len pr.length
  have h28 : 2 ^ pr.length ≤ 2 ^ 8 := Nat.pow_le_pow_right (by omega) h8
  obtain ⟨lo, hlo⟩ : ∃ lo, lo = (lotsA (natsI pr.length)).map rowV := ⟨_, rfl⟩
  have hlol : lo.length ≤ 256 := by rw [hlo, List.length_map, hll]; omega
  obtain ⟨gv, hgv⟩ : ∃ gv, gv = (goodL pr).map rowV := ⟨_, rfl⟩
  have hgvl : gv.length ≤ 256 := by rw [hgv, List.length_map]; exact good_len pr h8
  rw [← hlo] at f6 c6
  rw [← hgv] at c6
  have s6 : ex (callF p 18) (.asg 12 0 (.comp (.one 13) .plain [(.call i__law_lots [(.var 3)] [] 0)] [(.call i__law_is_met [(.var 1), (.var 13)] [] 0)] (.var 13))) [c2, prV pr, .int pr.length, lrw (natsI pr.length), .lst mv, .undef, .int t, .int (nPairs pr), .int s, .undef, .int (gP pr : Int), tl, .undef, .undef, .undef, .undef, .undef, .undef, .undef, .undef] = .nx [c2, prV pr, .int pr.length, lrw (natsI pr.length), .lst mv, .undef, .int t, .int (nPairs pr), .int s, .undef, .int (gP pr : Int), tl, .lst gv, .undef, .undef, .undef, .undef, .undef, .undef, .undef] := by
    simp -implicitDefEqProofs [-bifn_tuple, -bifn_list, undefd_pr, undefd_lrw, undefd_row, f6, lim_le (show lo.length ≤ 100000 by omega), c6]
  have c7 : compN (.one 13) (testOf (evs (callF p 18) [(.cmp .eq (.comp (.one 15) .plain [(.var 3)] [(.and (.cmp .notin (.var 15) (.var 13)) (.cmp .eq (.comp (.one 5) .plain [(.var 13)] [(.cmp .notin (.var 5) (.idx (.var 4) (.var 15)))] (.var 5)) (.lst [])))] (.var 15)) (.lst []))])) (ev (callF p 18) (.var 13)) gv [c2, prV pr, .int pr.length, lrw (natsI pr.length), .lst mv, .undef, .int t, .int (nPairs pr), .int s, .undef, .int (gP pr : Int), tl, .lst gv, .undef, .undef, .undef, .undef, .undef, .undef, .undef] = .ok ((fullL pr).map rowV) [c2, prV pr, .int pr.length, lrw (natsI pr.length), .lst mv, .undef, .int t, .int (nPairs pr), .int s, .undef, .int (gP pr : Int), tl, .lst gv, .undef, .undef, .undef, .undef, .undef, .undef, .undef] := by
    rw [← full_law hp]
    conv => lhs; arg 4; rw [hgv]
    refine comp_listF (fullB2 pr) rowV rowV _ fun l hl => ?_
    have hlot := (List.mem_filter.mp hl).1
    have hb := lot_below hlot
    have hlle := lot_len hlot
    have hitl : items .plain [rowV l] = some (l.map .int) := rfl
    have hin : ∀ u : Int, 0 ≤ u ∧ u < pr.length → compN (.one 5) (testOf (evs (callF p 18) [(.cmp .notin (.var 5) (.idx (.var 4) (.var 15)))])) (ev (callF p 18) (.var 5)) (l.map .int) [c2, prV pr, .int pr.length, lrw (natsI pr.length), .lst mv, .undef, .int t, .int (nPairs pr), .int s, .undef, .int (gP pr : Int), tl, .lst gv, rowV l, .undef, .int u, .undef, .undef, .undef, .undef] = .ok ((l.filter fun o => !((metRow pr u).contains o)).map .int) [c2, prV pr, .int pr.length, lrw (natsI pr.length), .lst mv, .undef, .int t, .int (nPairs pr), .int s, .undef, .int (gP pr : Int), tl, .lst gv, rowV l, .undef, .int u, .undef, .undef, .undef, .undef] := fun u hu => by
      refine comp_listF (fun o => !((metRow pr u).contains o)) Val.int Val.int l fun o ho => ?_
      refine ⟨[c2, prV pr, .int pr.length, lrw (natsI pr.length), .lst mv, .int o, .int t, .int (nPairs pr), .int s, .undef, .int (gP pr : Int), tl, .lst gv, rowV l, .undef, .int u, .undef, .undef, .undef, .undef], rfl, rfl, ?_, fun _ => by simp -implicitDefEqProofs⟩
      rw [testOf_one]
      simp -implicitDefEqProofs [undefd_lrw, hma u hu, isIn_lrw]
    have hout : compN (.one 15) (testOf (evs (callF p 18) [(.and (.cmp .notin (.var 15) (.var 13)) (.cmp .eq (.comp (.one 5) .plain [(.var 13)] [(.cmp .notin (.var 5) (.idx (.var 4) (.var 15)))] (.var 5)) (.lst [])))])) (ev (callF p 18) (.var 15)) nv [c2, prV pr, .int pr.length, lrw (natsI pr.length), .lst mv, .undef, .int t, .int (nPairs pr), .int s, .undef, .int (gP pr : Int), tl, .lst gv, rowV l, .undef, .undef, .undef, .undef, .undef, .undef] = .ok (((natsI pr.length).filter fun u => !(l.contains u) && (l.filter fun o => !((metRow pr u).contains o)).isEmpty).map .int) [c2, prV pr, .int pr.length, lrw (natsI pr.length), .lst mv, .undef, .int t, .int (nPairs pr), .int s, .undef, .int (gP pr : Int), tl, .lst gv, rowV l, .undef, .undef, .undef, .undef, .undef, .undef] := by
      rw [hnv]
      refine comp_listF (fun u => !(l.contains u) && (l.filter fun o => !((metRow pr u).contains o)).isEmpty) Val.int Val.int (natsI pr.length) fun u hu => ?_
      have hu := natsI_mem.mp hu
      have h2 := isIn_row u l
      have h3 := hin u hu
      obtain ⟨lv2, hlv2⟩ : ∃ lv2, lv2 = l.map Val.int := ⟨_, rfl⟩
      have hlim : Nat.ble lv2.length LIM = true := lim_le (by rw [hlv2, List.length_map]; omega)
      obtain ⟨zs, hzs⟩ : ∃ zs, zs = (l.filter fun o => !((metRow pr u).contains o)).map Val.int := ⟨_, rfl⟩
      have hze : zs.isEmpty = (l.filter fun o => !((metRow pr u).contains o)).isEmpty := by rw [hzs, map_isE]
      rw [← hlv2] at h3 hitl
      rw [← hzs] at h3
      rw [← hze]
      refine ⟨[c2, prV pr, .int pr.length, lrw (natsI pr.length), .lst mv, .undef, .int t, .int (nPairs pr), .int s, .undef, .int (gP pr : Int), tl, .lst gv, rowV l, .undef, .int u, .undef, .undef, .undef, .undef], rfl, rfl, ?_, fun _ => by simp -implicitDefEqProofs⟩
      rw [testOf_one]
      cases hq : l.contains u with
      | true =>
        rw [hq] at h2
        simp -implicitDefEqProofs [undefd_row, h2]
      | false =>
        rw [hq] at h2
        simp -implicitDefEqProofs [undefd_row, h2, hitl, hlim, h3]
    obtain ⟨zs, hzs⟩ : ∃ zs, zs = ((natsI pr.length).filter fun u => !(l.contains u) && (l.filter fun o => !((metRow pr u).contains o)).isEmpty).map Val.int := ⟨_, rfl⟩
    have hze : zs.isEmpty = fullB2 pr l := by rw [hzs, map_isE]; rfl
    rw [← hzs] at hout
    rw [← hze]
    refine ⟨[c2, prV pr, .int pr.length, lrw (natsI pr.length), .lst mv, .undef, .int t, .int (nPairs pr), .int s, .undef, .int (gP pr : Int), tl, .lst gv, rowV l, .undef, .undef, .undef, .undef, .undef, .undef], rfl, rfl, ?_, fun _ => by simp -implicitDefEqProofs [undefd_row]⟩
    rw [testOf_one]
    simp -implicitDefEqProofs [undefd_lrw, hit, hnl, hout]
  obtain ⟨fv, hfv⟩ : ∃ fv, fv = (fullL pr).map rowV := ⟨_, rfl⟩
  rw [← hfv] at c7
  have s7 : ex (callF p 18) (.asg 14 0 (.comp (.one 13) .plain [(.var 12)] [(.cmp .eq (.comp (.one 15) .plain [(.var 3)] [(.and (.cmp .notin (.var 15) (.var 13)) (.cmp .eq (.comp (.one 5) .plain [(.var 13)] [(.cmp .notin (.var 5) (.idx (.var 4) (.var 15)))] (.var 5)) (.lst [])))] (.var 15)) (.lst []))] (.var 13))) [c2, prV pr, .int pr.length, lrw (natsI pr.length), .lst mv, .undef, .int t, .int (nPairs pr), .int s, .undef, .int (gP pr : Int), tl, .lst gv, .undef, .undef, .undef, .undef, .undef, .undef, .undef] = .nx [c2, prV pr, .int pr.length, lrw (natsI pr.length), .lst mv, .undef, .int t, .int (nPairs pr), .int s, .undef, .int (gP pr : Int), tl, .lst gv, .undef, .lst fv, .undef, .undef, .undef, .undef, .undef] := by
    simp -implicitDefEqProofs [-bifn_tuple, -bifn_list, undefd_pr, undefd_lrw, undefd_row, lim_le (show gv.length ≤ 100000 by omega), c7]
  have f8 := sp_full_meeting_lots 12 hp
  have hso := sort_rows (fullL pr) (fullL_ne hp)
  obtain ⟨hfd1, hfd2⟩ := sorted_full_dat pr h8
  obtain ⟨sv, hsv⟩ : ∃ sv, sv = (sortR (fullL pr)).map rowV := ⟨_, rfl⟩
  rw [← hsv] at f8 hso hfd1 hfd2
  rw [← hfv] at hso
  have g8 := like3 (.tup sv) hfd1 (by omega)
  have hfvl : fv.length ≤ 256 := by rw [hfv, List.length_map]; exact full_len pr h8
  have tsv : bifn .tuple [.lst sv] = some (.tup sv) := rfl
  have s8 : ex (callF p 18) (.ite (.not (.call i__law_like [(.call i_full_meeting_lots [(.var 1)] [] 0), (.bi .tuple [(.bi .sorted [(.var 14)])])] [] 0)) [.ret (.bl false)] []) [c2, prV pr, .int pr.length, lrw (natsI pr.length), .lst mv, .undef, .int t, .int (nPairs pr), .int s, .undef, .int (gP pr : Int), tl, .lst gv, .undef, .lst fv, .undef, .undef, .undef, .undef, .undef] = .nx [c2, prV pr, .int pr.length, lrw (natsI pr.length), .lst mv, .undef, .int t, .int (nPairs pr), .int s, .undef, .int (gP pr : Int), tl, .lst gv, .undef, .lst fv, .undef, .undef, .undef, .undef, .undef] := by
    simp -implicitDefEqProofs [-bifn_tuple, -bifn_list, undefd_pr, undefd_lrw, undefd_row, f8, hso, g8, tsv]
  obtain ⟨lv9, c3, e9, hlv9, hc3⟩ := sp_some 16 c2 gv hc2 (by
    rw [hgv, List.length_map]
    exact List.length_pos_of_mem (good_zero hp)) (by omega)
  rw [hgv] at hlv9
  obtain ⟨l, hlg, rfl⟩ := List.mem_map.mp hlv9
  have hlot := (List.mem_filter.mp hlg).1
  have hlgood := (List.mem_filter.mp hlg).2
  have hlb := lot_below hlot
  have hlle := lot_len hlot
  have hl1 : 1 ≤ l.length := by
    cases l with
    | nil => cases hlgood
    | cons _ _ => simp
  have s9 : ex (callF p 18) (.asg 13 0 (.call i__law_some [(.io 0), (.var 12)] [0] 0)) [c2, prV pr, .int pr.length, lrw (natsI pr.length), .lst mv, .undef, .int t, .int (nPairs pr), .int s, .undef, .int (gP pr : Int), tl, .lst gv, .undef, .lst fv, .undef, .undef, .undef, .undef, .undef] = .nx [c3, prV pr, .int pr.length, lrw (natsI pr.length), .lst mv, .undef, .int t, .int (nPairs pr), .int s, .undef, .int (gP pr : Int), tl, .lst gv, rowV l, .lst fv, .undef, .undef, .undef, .undef, .undef] := by
    simp -implicitDefEqProofs [-bifn_tuple, -bifn_list, undefd_pr, undefd_lrw, undefd_row, undefd_of hc2.dat, e9]
  have r1 : rvV (rowV l) = some (rowV l.reverse) := by
    show some (Val.tup (l.map Val.int).reverse) = _
    rw [← List.map_reverse]
    rfl
  have r2 := list_row l
  have r3 : slcV (rowV l) [.int 1] [] = some (rowV (l.drop 1)) := by
    have := slc_from_t (l.map Val.int) (show (0 : Int) ≤ 1 by omega)
    rw [show (1 : Int).toNat = 1 from rfl, ← List.map_drop] at this
    exact this
  have r4 := slc_last l hl1
  have r5 : bAdd (rowV l) (rowV (l.drop (l.length - 1))) = some (rowV (l ++ l.drop (l.length - 1))) := by
    show bAdd (.tup (l.map .int)) (.tup ((l.drop (l.length - 1)).map .int)) = _
    rw [bAdd_tup _ _ (le_LIM (by rw [List.length_map, List.length_map, List.length_drop]; omega)), ← List.map_append]
    rfl
  have r6 := add_row l pr.length (by omega)
  have r7 := tup_lrw (natsI pr.length)
  obtain ⟨l2, hl2⟩ : ∃ l2, l2 = l.drop 1 := ⟨_, rfl⟩
  obtain ⟨l3, hl3⟩ : ∃ l3, l3 = l.drop (l.length - 1) := ⟨_, rfl⟩
  have hl2l : l2.length ≤ 8 := by rw [hl2, List.length_drop]; omega
  have hl3l : l3.length ≤ 8 := by rw [hl3, List.length_drop]; omega
  rw [← hl2] at r3
  rw [← hl3] at r4 r5
  obtain ⟨v1, hv1⟩ : ∃ v1 : List Val, v1 = [rowV l, rowV l.reverse, lrw l, rowV l2, rowV (l ++ l3), rowV (l ++ [(pr.length : Int)]), .tup [], .non, .int 0, .tup [.bl true], .tup [.str ⟨#[48]⟩], .tup [.int (-1)], rowV (natsI pr.length)] := ⟨_, rfl⟩
  have s10 : ex (callF p 18) (.asg 16 0 (.lst [(.var 13), (.rv (.var 13)), (.bi .list [(.var 13)]), (.slc (.var 13) [(.int 1)] []), (.bin .add (.var 13) (.slc (.var 13) [(.neg (.int 1))] [])), (.bin .add (.var 13) (.tup [(.var 2)])), (.tup []), (.non), (.int 0), (.tup [(.bl true)]), (.tup [(.str ⟨#[48]⟩)]), (.tup [(.neg (.int 1))]), (.bi .tuple [(.var 3)])])) [c3, prV pr, .int pr.length, lrw (natsI pr.length), .lst mv, .undef, .int t, .int (nPairs pr), .int s, .undef, .int (gP pr : Int), tl, .lst gv, rowV l, .lst fv, .undef, .undef, .undef, .undef, .undef] = .nx [c3, prV pr, .int pr.length, lrw (natsI pr.length), .lst mv, .undef, .int t, .int (nPairs pr), .int s, .undef, .int (gP pr : Int), tl, .lst gv, rowV l, .lst fv, .undef, .lst v1, .undef, .undef, .undef] := by
    rw [hv1]
    simp -implicitDefEqProofs [-bifn_tuple, -bifn_list, undefd_pr, undefd_lrw, undefd_row, r1, r2, r3, r4, r5, r6, r7]
  obtain ⟨lv11, c4, e11, hlv11, hc4⟩ := sp_some 16 c3 lo hc3 (by
    rw [hlo, List.length_map, hll]
    exact Nat.two_pow_pos _) (by omega)
  rw [hlo] at hlv11
  obtain ⟨l4, hl4, rfl⟩ := List.mem_map.mp hlv11
  have hl4l := lot_len hl4
  obtain ⟨v2, hv2⟩ : ∃ v2 : List Val, v2 = [rowV (metRow pr t), rowV l4, .tup [.int t, .int s], .tup [.int s, .int t]] := ⟨_, rfl⟩
  have hv1l : v1.length = 13 := by rw [hv1]; rfl
  have hv2l : v2.length = 4 := by rw [hv2]; rfl
  have hadd := bAdd_lst v1 v2 (le_LIM (by omega))
  have hmt := hma t ht
  have s11 : ex (callF p 18) (.asg 16 0 (.bin .add (.var 16) (.lst [(.bi .tuple [(.idx (.var 4) (.var 6))]), (.call i__law_some [(.io 0), (.call i__law_lots [(.var 3)] [] 0)] [0] 0), (.tup [(.var 6), (.var 8)]), (.tup [(.var 8), (.var 6)])]))) [c3, prV pr, .int pr.length, lrw (natsI pr.length), .lst mv, .undef, .int t, .int (nPairs pr), .int s, .undef, .int (gP pr : Int), tl, .lst gv, rowV l, .lst fv, .undef, .lst v1, .undef, .undef, .undef] = .nx [c4, prV pr, .int pr.length, lrw (natsI pr.length), .lst mv, .undef, .int t, .int (nPairs pr), .int s, .undef, .int (gP pr : Int), tl, .lst gv, rowV l, .lst fv, .undef, .lst (v1 ++ v2), .undef, .undef, .undef] := by
    rw [hv2] at hadd ⊢
    simp -implicitDefEqProofs [-bifn_tuple, -bifn_list, undefd_pr, undefd_lrw, undefd_row, undefd_of hc3.dat, f6, e11, g7, hmt, hadd]
  have hvd : ∀ v, v ∈ v1 ++ v2 → dat 60 v = true := by
    intro v hv
    rw [hv1, hv2] at hv
    simp only [List.mem_append, List.mem_cons, List.not_mem_nil, or_false] at hv
    rcases hv with (e | e | e | e | e | e | e | e | e | e | e | e | e) | (e | e | e | e) <;> subst e
    · exact row_dat _ _ (by omega)
    · exact row_dat _ _ (by rw [List.length_reverse]; omega)
    · exact dat_lrw _ _ (by omega)
    · exact row_dat _ _ (by omega)
    · exact row_dat _ _ (by rw [List.length_append]; omega)
    · exact row_dat _ _ (by rw [List.length_append, List.length_cons, List.length_nil]; omega)
    · decide
    · decide
    · decide
    · decide
    · decide
    · decide
    · exact row_dat _ _ (by rw [natsI_len]; omega)
    · exact row_dat _ _ (by omega)
    · exact row_dat _ _ (by omega)
    · exact row_dat [_, _] _ (by simp)
    · exact row_dat [_, _] _ (by simp)
  obtain ⟨vs, hvs⟩ : ∃ vs, vs = v1 ++ v2 := ⟨_, rfl⟩
  have hvsl : vs.length ≤ 100000 := by rw [hvs, List.length_append]; omega
  rw [← hvs] at s11 hvd
  have c12 : compN (.one 17) (testOf (evs (callF p 18) [(.not (.call i__law_like [(.call i_is_meeting_lot [(.var 1), (.var 17)] [] 0), (.call i__law_is_met [(.var 1), (.var 17)] [] 0)] [] 0))])) (ev (callF p 18) (.var 17)) vs [c4, prV pr, .int pr.length, lrw (natsI pr.length), .lst mv, .undef, .int t, .int (nPairs pr), .int s, .undef, .int (gP pr : Int), tl, .lst gv, rowV l, .lst fv, .undef, .lst vs, .undef, .undef, .undef] = .ok ((vs.filter fun _ => false).map fun x => x) [c4, prV pr, .int pr.length, lrw (natsI pr.length), .lst mv, .undef, .int t, .int (nPairs pr), .int s, .undef, .int (gP pr : Int), tl, .lst gv, rowV l, .lst fv, .undef, .lst vs, .undef, .undef, .undef] := by
    refine comp_map (fun _ => false) (fun x => x) vs fun v hv => ?_
    have hd := hvd v hv
    have h1 := sp_is_meeting_lot 12 hp 60 v hd
    have h2 := sp_law_is_met 16 hp v hd
    have h3 := like3 (.bl (isML pr v)) (by simp) (by simp [dep])
    refine ⟨[c4, prV pr, .int pr.length, lrw (natsI pr.length), .lst mv, .undef, .int t, .int (nPairs pr), .int s, .undef, .int (gP pr : Int), tl, .lst gv, rowV l, .lst fv, .undef, .lst vs, v, .undef, .undef], rfl, rfl, ?_, fun z => nomatch z⟩
    rw [testOf_one]
    simp -implicitDefEqProofs [undefd_pr, undefd_of (dat_isDat hd), h1, h2, h3]
  have hfe : (vs.filter fun _ => false).map (fun x => x) = [] := by simp
  rw [hfe] at c12
  have s12 : ex (callF p 18) (.ite (.cmp .ne (.comp (.one 17) .plain [(.var 16)] [(.not (.call i__law_like [(.call i_is_meeting_lot [(.var 1), (.var 17)] [] 0), (.call i__law_is_met [(.var 1), (.var 17)] [] 0)] [] 0))] (.var 17)) (.lst [])) [.ret (.bl false)] []) [c4, prV pr, .int pr.length, lrw (natsI pr.length), .lst mv, .undef, .int t, .int (nPairs pr), .int s, .undef, .int (gP pr : Int), tl, .lst gv, rowV l, .lst fv, .undef, .lst vs, .undef, .undef, .undef] = .nx [c4, prV pr, .int pr.length, lrw (natsI pr.length), .lst mv, .undef, .int t, .int (nPairs pr), .int s, .undef, .int (gP pr : Int), tl, .lst gv, rowV l, .lst fv, .undef, .lst vs, .undef, .undef, .undef] := by
    simp -implicitDefEqProofs [-bifn_tuple, -bifn_list, undefd_pr, undefd_lrw, undefd_row, lim_le hvsl, c12]
  obtain ⟨row, c5, e13, hr, hc5⟩ := sp_law_order 16 c4 pr.length hc4 (by omega)
  have f13 := sp_led_product 12 hp hr
  have s13 : ex (callF p 18) (.asg 18 0 (.call i_led_product [(.var 1), (.call i__law_order [(.io 0), (.var 2)] [0] 0)] [] 0)) [c4, prV pr, .int pr.length, lrw (natsI pr.length), .lst mv, .undef, .int t, .int (nPairs pr), .int s, .undef, .int (gP pr : Int), tl, .lst gv, rowV l, .lst fv, .undef, .lst vs, .undef, .undef, .undef] = .nx [c5, prV pr, .int pr.length, lrw (natsI pr.length), .lst mv, .undef, .int t, .int (nPairs pr), .int s, .undef, .int (gP pr : Int), tl, .lst gv, rowV l, .lst fv, .undef, .lst vs, .undef, prV (ledP pr row), .undef] := by
    simp -implicitDefEqProofs [-bifn_tuple, -bifn_list, undefd_pr, undefd_lrw, undefd_row, undefd_of hc4.dat, e13, f13]
  have hpl := hp.led hr
  have a1 := sp_turned 12 hp
  have a2 := sp_full_meeting_lots 12 hp.turn
  rw [fullL_turn hp] at a2
  have a3 := sp_count_meeting_pairs 12 hpl
  rw [nPairs_led hp hr] at a3
  have a4 := sp_full_meeting_lots 12 hpl
  rw [← hsv] at a2
  obtain ⟨ql, hql⟩ : ∃ ql : List (List Int), ql = sortR (fullL (ledP pr row)) := ⟨_, rfl⟩
  have hqp : (ql.map fun l => (l.length : Int)).Perm ((fullL pr).map fun l => (l.length : Int)) := by
    rw [hql]
    have h1 := (sortR_perm (fullL (ledP pr row))).map fun l => (l.length : Int)
    have h2 := (full_led_lens hp hr).map fun k : Nat => (k : Int)
    rw [List.map_map, List.map_map] at h2
    exact h1.trans h2
  have hqlen : ql.length ≤ 256 := by
    rw [hql, (sortR_perm _).length_eq]
    exact full_len _ (by rw [ledP_len]; exact h8)
  rw [← hql] at a4
  have a5 := sort_ints (ql.map fun l => (l.length : Int))
  rw [sortI_perm2 hqp] at a5
  have a6 := sort_ints ((fullL pr).map fun l => (l.length : Int))
  obtain ⟨lens, hlens⟩ : ∃ lens, lens = sortI ((fullL pr).map fun l => (l.length : Int)) := ⟨_, rfl⟩
  rw [← hlens] at a5 a6
  unfold lrw at a5 a6
  rw [List.map_map] at a5 a6
  have c14 : compN (.one 19) (testOf (evs (callF p 18) [])) (ev (callF p 18) (.bi .len [(.var 19)])) (ql.map rowV) [c5, prV pr, .int pr.length, lrw (natsI pr.length), .lst mv, .undef, .int t, .int (nPairs pr), .int s, .undef, .int (gP pr : Int), tl, .lst gv, rowV l, .lst fv, .undef, .lst vs, .undef, prV (ledP pr row), .undef] = .ok (ql.map fun l => .int (l.length : Int)) [c5, prV pr, .int pr.length, lrw (natsI pr.length), .lst mv, .undef, .int t, .int (nPairs pr), .int s, .undef, .int (gP pr : Int), tl, .lst gv, rowV l, .lst fv, .undef, .lst vs, .undef, prV (ledP pr row), .undef] := by
    refine comp_list rowV (fun l => Val.int (l.length : Int)) ql fun z _ => ⟨[c5, prV pr, .int pr.length, lrw (natsI pr.length), .lst mv, .undef, .int t, .int (nPairs pr), .int s, .undef, .int (gP pr : Int), tl, .lst gv, rowV l, .lst fv, .undef, .lst vs, .undef, prV (ledP pr row), rowV z], rfl, rfl, ?_⟩
    simp -implicitDefEqProofs [undefd_row, len_row]
  obtain ⟨qv, hqv⟩ : ∃ qv, qv = ql.map rowV := ⟨_, rfl⟩
  have hqvl : qv.length ≤ 100000 := by rw [hqv, List.length_map]; omega
  obtain ⟨qn, hqn⟩ : ∃ qn, qn = ql.map fun l => Val.int (l.length : Int) := ⟨_, rfl⟩
  rw [← hqv] at c14 a4
  rw [← hqn] at c14
  have a5' : bifn .sorted [.lst qn] = some (.lst (lens.map .int)) := by rw [hqn]; exact a5
  obtain ⟨lz, hlz⟩ : ∃ lz, lz = Val.lst (lens.map .int) := ⟨_, rfl⟩
  rw [← hlz] at a5' a6
  have ulz : ∀ {β : Type} (z k : β), undefd lz z k = k := by rw [hlz]; intros; rfl
  have s14 : ex (callF p 18) (.asg 11 0 (.lst [(.call i_full_meeting_lots [(.call i_turned_product [(.var 1)] [] 0)] [] 0), (.call i_count_meeting_pairs [(.var 18)] [] 0), (.bi .sorted [(.comp (.one 19) .plain [(.call i_full_meeting_lots [(.var 18)] [] 0)] [] (.bi .len [(.var 19)]))])])) [c5, prV pr, .int pr.length, lrw (natsI pr.length), .lst mv, .undef, .int t, .int (nPairs pr), .int s, .undef, .int (gP pr : Int), tl, .lst gv, rowV l, .lst fv, .undef, .lst vs, .undef, prV (ledP pr row), .undef] = .nx [c5, prV pr, .int pr.length, lrw (natsI pr.length), .lst mv, .undef, .int t, .int (nPairs pr), .int s, .undef, .int (gP pr : Int), .lst [.tup sv, .int (nPairs pr), lz], .lst gv, rowV l, .lst fv, .undef, .lst vs, .undef, prV (ledP pr row), .undef] := by
    simp -implicitDefEqProofs [-bifn_tuple, undefd_pr, undefd_lrw, undefd_row, a1, a2, a3, a4, lim_le hqvl, c14, a5']
  have c15 : compN (.one 19) (testOf (evs (callF p 18) [])) (ev (callF p 18) (.bi .len [(.var 19)])) fv [c5, prV pr, .int pr.length, lrw (natsI pr.length), .lst mv, .undef, .int t, .int (nPairs pr), .int s, .undef, .int (gP pr : Int), .lst [.tup sv, .int (nPairs pr), lz], .lst gv, rowV l, .lst fv, .undef, .lst vs, .undef, prV (ledP pr row), .undef] = .ok ((fullL pr).map fun l => .int (l.length : Int)) [c5, prV pr, .int pr.length, lrw (natsI pr.length), .lst mv, .undef, .int t, .int (nPairs pr), .int s, .undef, .int (gP pr : Int), .lst [.tup sv, .int (nPairs pr), lz], .lst gv, rowV l, .lst fv, .undef, .lst vs, .undef, prV (ledP pr row), .undef] := by
    conv => lhs; arg 4; rw [hfv]
    refine comp_list rowV (fun l => Val.int (l.length : Int)) (fullL pr) fun z _ => ⟨[c5, prV pr, .int pr.length, lrw (natsI pr.length), .lst mv, .undef, .int t, .int (nPairs pr), .int s, .undef, .int (gP pr : Int), .lst [.tup sv, .int (nPairs pr), lz], .lst gv, rowV l, .lst fv, .undef, .lst vs, .undef, prV (ledP pr row), rowV z], rfl, rfl, ?_⟩
    simp -implicitDefEqProofs [undefd_row, len_row]
  obtain ⟨fn2, hfn2⟩ : ∃ fn2, fn2 = (fullL pr).map fun l => Val.int (l.length : Int) := ⟨_, rfl⟩
  rw [← hfn2] at c15
  have a6' : bifn .sorted [.lst fn2] = some lz := by rw [hfn2]; exact a6
  have hlzd : dat 1000 lz = true ∧ dep lz ≤ 1 := by
    rw [hlz]
    refine ⟨dat_lrw lens 1000 ?_, dep_lrw lens⟩
    rw [hlens, (sortI_perm _).length_eq, List.length_map]
    have := full_len pr h8
    omega
  have g15 := like3 (.lst [.tup sv, .int (nPairs pr), lz]) (by
    refine dat_of (by simp) fun x hx => ?_
    simp only [List.mem_cons, List.not_mem_nil, or_false] at hx
    rcases hx with e | e | e <;> subst e
    · exact hfd1
    · simp
    · exact hlzd.1) (by
    refine Nat.le_trans (dep_lst' (d := 2) fun x hx => ?_) (by omega)
    simp only [List.mem_cons, List.not_mem_nil, or_false] at hx
    rcases hx with e | e | e <;> subst e
    · exact hfd2
    · simp [dep]
    · have := hlzd.2
      omega)
  rw [exs_cons, s0, seqO_nx, exs_cons, s1, seqO_nx, exs_cons, s2, seqO_nx, exs_cons, s3, seqO_nx, exs_cons, s4, seqO_nx, exs_cons, s5, seqO_nx, exs_cons, s6, seqO_nx, exs_cons, s7, seqO_nx, exs_cons, s8, seqO_nx, exs_cons, s9, seqO_nx, exs_cons, s10, seqO_nx, exs_cons, s11, seqO_nx, exs_cons, s12, seqO_nx, exs_cons, s13, seqO_nx, exs_cons, s14, seqO_nx]
  simp -implicitDefEqProofs [-bifn_tuple, undefd_pr, undefd_lrw, undefd_row, ulz, hso, tsv, lim_le (show fv.length ≤ 100000 by omega), c15, a6', g15]
  exact hc5
end Mp
set_option Elab.async false
set_option linter.all false
set_option maxRecDepth 100000
set_option maxHeartbeats 0
/-! # the law -/
namespace Mp
open PySem
def cSome : Val := .tup [.tup [.int 0, .int 1, .int 2, .int 3, .int 4, .int 5], .tup [.int 1, .int 2, .int 0, .int 4, .int 5, .int 3], .tup [.int 2, .int 0, .int 1, .int 5, .int 3, .int 4], .tup [.int 3, .int 5, .int 4, .int 0, .int 2, .int 1], .tup [.int 4, .int 3, .int 5, .int 1, .int 0, .int 2], .tup [.int 5, .int 4, .int 3, .int 2, .int 1, .int 0]]
def cLeft : Val := .tup [.tup [.int 0, .int 0], .tup [.int 1, .int 1]]
def lefts (m : Nat) : List (List Int) := (natsI m).map fun t => List.replicate m t
def rests (m : Nat) : List (List Int) := tab m fun a b => a * b % (m : Int)
def chkM (m : Nat) : Bool := prdB (lefts m) && prdB (rests m) && (nPairs (lefts m) / (gP (lefts m) : Int) == 1) && ((((lefts m).length * (lefts m).length : Nat) : Int) / (gP (lefts m) : Int) == (m : Int)) &&
  (nPairs (rests m) / (gP (rests m) : Int) == 1) && ((((rests m).length * (rests m).length : Nat) : Int) / (gP (rests m) : Int) == 1) && (sortR (fullL (lefts m)) == (natsI m).map fun t => [t]) && (sortR (fullL (rests m)) == [natsI m]) && isML (rests m) (rowV (natsI m))
theorem chkM_1 : chkM 1 = true := by decide +kernel
theorem chkM_2 : chkM 2 = true := by decide +kernel
theorem chkM_3 : chkM 3 = true := by decide +kernel
theorem chkM_4 : chkM 4 = true := by decide +kernel
theorem chkM_5 : chkM 5 = true := by decide +kernel
theorem chkM_6 : chkM 6 = true := by decide +kernel
theorem chkM_7 : chkM 7 = true := by decide +kernel
theorem chkM_8 : chkM 8 = true := by decide +kernel
theorem chkM_ok {m : Nat} (h : 1 ≤ m) (h8 : m ≤ 8) : chkM m = true := by
  have : m = 1 ∨ m = 2 ∨ m = 3 ∨ m = 4 ∨ m = 5 ∨ m = 6 ∨ m = 7 ∨ m = 8 := by omega
  rcases this with e | e | e | e | e | e | e | e <;> rw [e]
  · exact chkM_1
  · exact chkM_2
  · exact chkM_3
  · exact chkM_4
  · exact chkM_5
  · exact chkM_6
  · exact chkM_7
  · exact chkM_8
theorem k_0 : callF p 19 i_do_meet [cSome, .int 1, .int 2] = .ok (.bl true) [] := rcIs_eq (by decide +kernel)
theorem k_1 : callF p 19 i_do_meet [cSome, .int 1, .int 3] = .ok (.bl false) [] := rcIs_eq (by decide +kernel)
theorem k_2 : callF p 19 i_meeting_things [cSome, .int 3] = .ok (.tup [.int 0, .int 3]) [] := rcIs_eq (by decide +kernel)
theorem k_3 : callF p 19 i_count_meeting_pairs [cSome] = .ok (.int 18) [] := rcIs_eq (by decide +kernel)
theorem k_4 : callF p 19 i_meeting_share [cSome] = .ok (.tup [.int 1, .int 2]) [] := rcIs_eq (by decide +kernel)
theorem k_5 : callF p 19 i_meeting_share [cLeft] = .ok (.tup [.int 1, .int 2]) [] := rcIs_eq (by decide +kernel)
theorem k_6 : callF p 19 i_meeting_share [.tup [.tup [.int 0]]] = .ok (.tup [.int 1, .int 1]) [] := rcIs_eq (by decide +kernel)
theorem k_7 : callF p 19 i_is_meeting_lot [cSome, .tup [.int 0, .int 3]] = .ok (.bl true) [] := rcIs_eq (by decide +kernel)
theorem k_8 : callF p 19 i_is_meeting_lot [cSome, .tup [.int 3, .int 4]] = .ok (.bl false) [] := rcIs_eq (by decide +kernel)
theorem k_9 : callF p 19 i_is_meeting_lot [cSome, .tup []] = .ok (.bl false) [] := rcIs_eq (by decide +kernel)
theorem k_10 : callF p 19 i_full_meeting_lots [cSome] = .ok (.tup [.tup [.int 0, .int 1, .int 2], .tup [.int 0, .int 3], .tup [.int 0, .int 4], .tup [.int 0, .int 5]]) [] := rcIs_eq (by decide +kernel)
theorem k_11 : callF p 19 i_full_meeting_lots [cLeft] = .ok (.tup [.tup [.int 0], .tup [.int 1]]) [] := rcIs_eq (by decide +kernel)
theorem k_like1 : callF p 19 i__law_like [.lst [.bl true, .bl false, .tup [.int 0, .int 3], .int 18, .tup [.int 1, .int 2], .tup [.int 1, .int 2], .tup [.int 1, .int 1]], .lst [.bl true, .bl false, .tup [.int 0, .int 3], .int 18, .tup [.int 1, .int 2], .tup [.int 1, .int 2], .tup [.int 1, .int 1]]] = .ok (.bl true) [] := rcIs_eq (by decide +kernel)
theorem k_like2 : callF p 19 i__law_like [.lst [.bl true, .bl false, .bl false, .tup [.tup [.int 0, .int 1, .int 2], .tup [.int 0, .int 3], .tup [.int 0, .int 4], .tup [.int 0, .int 5]], .tup [.tup [.int 0], .tup [.int 1]]], .lst [.bl true, .bl false, .bl false, .tup [.tup [.int 0, .int 1, .int 2], .tup [.int 0, .int 3], .tup [.int 0, .int 4], .tup [.int 0, .int 5]], .tup [.tup [.int 0], .tup [.int 1]]]] = .ok (.bl true) [] := rcIs_eq (by decide +kernel)
theorem k_add : bAdd (.lst [.bl true, .bl false, .tup [.int 0, .int 3], .int 18, .tup [.int 1, .int 2], .tup [.int 1, .int 2]]) (.lst [.tup [.int 1, .int 1]]) = some (.lst [.bl true, .bl false, .tup [.int 0, .int 3], .int 18, .tup [.int 1, .int 2], .tup [.int 1, .int 2], .tup [.int 1, .int 1]]) := bAdd_lst _ _ (le_LIM (by simp))
theorem u_some {β : Type} (z k : β) : undefd cSome z k = k := rfl
theorem u_left {β : Type} (z k : β) : undefd cLeft z k = k := rfl
theorem like4 (v : Val) (h : dat 1000 v = true) (hd : dep v ≤ 10) : callF p 19 i__law_like [v, v] = .ok (.bl true) [] := sp_like 1000 (by omega) 10 7 v h hd
theorem bMul_one (t : Int) (m : Nat) (h1 : 1 ≤ m) (h8 : m ≤ 8) : bMul (.tup [.int t]) (.int (m : Int)) = some (rowV (List.replicate m t)) := by
  by_cases h : 2 ≤ m
  · show (if decide ((2 : Int) ≤ m) && decide ((m : Int) ≤ 1000) && Nat.ble [Val.int t].length 1000 && Nat.ble 1 [Val.int t].length then some (Val.tup (reps [Val.int t] (m : Int).toNat)) else _) = _
    rw [if_pos, Int.toNat_natCast, reps_one]
    · unfold rowV
      rw [List.map_replicate]
    · simp only [Bool.and_eq_true, decide_eq_true_eq]
      exact ⟨⟨⟨by omega, by omega⟩, rfl⟩, rfl⟩
  · have : m = 1 := by omega
    subst this
    rfl
theorem sp_law (ns : List Int) (hn : ns.length ≤ 1000) : ∃ outs, callF p 20 i_law [.opq 0 (ns.map .int)] = .ok (.bl true) outs := by
  rw [show (20 : Nat) = 19 + 1 from rfl, callF_succ, fn_law]
  suffices q : ∃ w outs, endO [3] (exs (callF p 19) p_law.body [.opq 0 (ns.map .int), .undef, .undef, .undef, .undef, .undef, .undef, .undef, .undef, .undef, .undef, .undef, .undef, .undef, .undef]) = .ok w outs ∧ (w = .bl true) by
    obtain ⟨w, outs, q, rfl⟩ := q
    exact ⟨outs, q⟩
  refine call_wp ?_
  obtain ⟨c, e1, hc⟩ := sp_cup 18 ns hn
  obtain ⟨sv, hsv⟩ : ∃ sv, sv = ns.map Val.int := ⟨_, rfl⟩
  rw [← hsv] at e1 ⊢
  simp -implicitDefEqProofs only [p_law]
  have s0 : ex (callF p 19) (.asg 1 1 (.call i__law_cup [(.io 0)] [0] 0)) [.opq 0 sv, .undef, .undef, .undef, .undef, .undef, .undef, .undef, .undef, .undef, .undef, .undef, .undef, .undef, .undef] = .nx [.opq 0 sv, c, .undef, .undef, .undef, .undef, .undef, .undef, .undef, .undef, .undef, .undef, .undef, .undef, .undef] := by
    simp -implicitDefEqProofs [-bifn_tuple, e1]
  have s1 : ex (callF p 19) (.asg 2 0 (.tup [(.tup [(.int 0), (.int 1), (.int 2), (.int 3), (.int 4), (.int 5)]), (.tup [(.int 1), (.int 2), (.int 0), (.int 4), (.int 5), (.int 3)]), (.tup [(.int 2), (.int 0), (.int 1), (.int 5), (.int 3), (.int 4)]), (.tup [(.int 3), (.int 5), (.int 4), (.int 0), (.int 2), (.int 1)]), (.tup [(.int 4), (.int 3), (.int 5), (.int 1), (.int 0), (.int 2)]), (.tup [(.int 5), (.int 4), (.int 3), (.int 2), (.int 1), (.int 0)])])) [.opq 0 sv, c, .undef, .undef, .undef, .undef, .undef, .undef, .undef, .undef, .undef, .undef, .undef, .undef, .undef] = .nx [.opq 0 sv, c, cSome, .undef, .undef, .undef, .undef, .undef, .undef, .undef, .undef, .undef, .undef, .undef, .undef] := rfl
  have s2 : ex (callF p 19) (.asg 3 0 (.tup [(.tup [(.int 0), (.int 0)]), (.tup [(.int 1), (.int 1)])])) [.opq 0 sv, c, cSome, .undef, .undef, .undef, .undef, .undef, .undef, .undef, .undef, .undef, .undef, .undef, .undef] = .nx [.opq 0 sv, c, cSome, cLeft, .undef, .undef, .undef, .undef, .undef, .undef, .undef, .undef, .undef, .undef, .undef] := rfl
  have s3 : ex (callF p 19) (.asg 4 0 (.lst [(.call i_do_meet [(.var 2), (.int 1), (.int 2)] [] 0), (.call i_do_meet [(.var 2), (.int 1), (.int 3)] [] 0), (.call i_meeting_things [(.var 2), (.int 3)] [] 0), (.call i_count_meeting_pairs [(.var 2)] [] 0), (.call i_meeting_share [(.var 2)] [] 0), (.call i_meeting_share [(.var 3)] [] 0)])) [.opq 0 sv, c, cSome, cLeft, .undef, .undef, .undef, .undef, .undef, .undef, .undef, .undef, .undef, .undef, .undef] = .nx [.opq 0 sv, c, cSome, cLeft, .lst [.bl true, .bl false, .tup [.int 0, .int 3], .int 18, .tup [.int 1, .int 2], .tup [.int 1, .int 2]], .undef, .undef, .undef, .undef, .undef, .undef, .undef, .undef, .undef, .undef] := by
    simp -implicitDefEqProofs [-bifn_tuple, u_some, u_left, k_0, k_1, k_2, k_3, k_4, k_5]
  have s4 : ex (callF p 19) (.ite (.not (.call i__law_like [(.bin .add (.var 4) (.lst [(.call i_meeting_share [(.tup [(.tup [(.int 0)])])] [] 0)])), (.lst [(.bl true), (.bl false), (.tup [(.int 0), (.int 3)]), (.int 18), (.tup [(.int 1), (.int 2)]), (.tup [(.int 1), (.int 2)]), (.tup [(.int 1), (.int 1)])])] [] 0)) [.ret (.bl false)] []) [.opq 0 sv, c, cSome, cLeft, .lst [.bl true, .bl false, .tup [.int 0, .int 3], .int 18, .tup [.int 1, .int 2], .tup [.int 1, .int 2]], .undef, .undef, .undef, .undef, .undef, .undef, .undef, .undef, .undef, .undef] = .nx [.opq 0 sv, c, cSome, cLeft, .lst [.bl true, .bl false, .tup [.int 0, .int 3], .int 18, .tup [.int 1, .int 2], .tup [.int 1, .int 2]], .undef, .undef, .undef, .undef, .undef, .undef, .undef, .undef, .undef, .undef] := by
    simp -implicitDefEqProofs [-bifn_tuple, k_6, k_add, k_like1]
  have s5 : ex (callF p 19) (.asg 4 0 (.lst [(.call i_is_meeting_lot [(.var 2), (.tup [(.int 0), (.int 3)])] [] 0), (.call i_is_meeting_lot [(.var 2), (.tup [(.int 3), (.int 4)])] [] 0), (.call i_is_meeting_lot [(.var 2), (.tup [])] [] 0), (.call i_full_meeting_lots [(.var 2)] [] 0), (.call i_full_meeting_lots [(.var 3)] [] 0)])) [.opq 0 sv, c, cSome, cLeft, .lst [.bl true, .bl false, .tup [.int 0, .int 3], .int 18, .tup [.int 1, .int 2], .tup [.int 1, .int 2]], .undef, .undef, .undef, .undef, .undef, .undef, .undef, .undef, .undef, .undef] = .nx [.opq 0 sv, c, cSome, cLeft, .lst [.bl true, .bl false, .bl false, .tup [.tup [.int 0, .int 1, .int 2], .tup [.int 0, .int 3], .tup [.int 0, .int 4], .tup [.int 0, .int 5]], .tup [.tup [.int 0], .tup [.int 1]]], .undef, .undef, .undef, .undef, .undef, .undef, .undef, .undef, .undef, .undef] := by
    simp -implicitDefEqProofs [-bifn_tuple, u_some, u_left, k_7, k_8, k_9, k_10, k_11]
  have s6 : ex (callF p 19) (.ite (.not (.call i__law_like [(.var 4), (.lst [(.bl true), (.bl false), (.bl false), (.tup [(.tup [(.int 0), (.int 1), (.int 2)]), (.tup [(.int 0), (.int 3)]), (.tup [(.int 0), (.int 4)]), (.tup [(.int 0), (.int 5)])]), (.tup [(.tup [(.int 0)]), (.tup [(.int 1)])])])] [] 0)) [.ret (.bl false)] []) [.opq 0 sv, c, cSome, cLeft, .lst [.bl true, .bl false, .bl false, .tup [.tup [.int 0, .int 1, .int 2], .tup [.int 0, .int 3], .tup [.int 0, .int 4], .tup [.int 0, .int 5]], .tup [.tup [.int 0], .tup [.int 1]]], .undef, .undef, .undef, .undef, .undef, .undef, .undef, .undef, .undef, .undef] = .nx [.opq 0 sv, c, cSome, cLeft, .lst [.bl true, .bl false, .bl false, .tup [.tup [.int 0, .int 1, .int 2], .tup [.int 0, .int 3], .tup [.int 0, .int 4], .tup [.int 0, .int 5]], .tup [.tup [.int 0], .tup [.int 1]]], .undef, .undef, .undef, .undef, .undef, .undef, .undef, .undef, .undef, .undef] := by
    simp -implicitDefEqProofs [-bifn_tuple, k_like2]
  obtain ⟨tl, htl⟩ : ∃ tl, tl = Val.lst [.bl true, .bl false, .bl false, .tup [.tup [.int 0, .int 1, .int 2], .tup [.int 0, .int 3], .tup [.int 0, .int 4], .tup [.int 0, .int 5]], .tup [.tup [.int 0], .tup [.int 1]]] := ⟨_, rfl⟩
  rw [← htl] at s5 s6
  rw [exs_cons, s0, seqO_nx, exs_cons, s1, seqO_nx, exs_cons, s2, seqO_nx, exs_cons, s3, seqO_nx, exs_cons, s4, seqO_nx, exs_cons, s5, seqO_nx, exs_cons, s6, seqO_nx, exs_cons]
  refine WpO_seq ?_
  rw [ex_loop, xLoop_eq]
  have hit : items .plain [.tup [.int 3, .int 5, .int 6]] = some ([3, 5, 6].map Val.int) := rfl
  have hev : evs (callF p 19) [(.tup [(.int 3), (.int 5), (.int 6)])] [.opq 0 sv, c, cSome, cLeft, tl, .undef, .undef, .undef, .undef, .undef, .undef, .undef, .undef, .undef, .undef] = .ok [.tup [.int 3, .int 5, .int 6]] [.opq 0 sv, c, cSome, cLeft, tl, .undef, .undef, .undef, .undef, .undef, .undef, .undef, .undef, .undef, .undef] := rfl
  rw [hev]
  simp -implicitDefEqProofs only [bindO_ok, kLoop_eq, hit, forI_some]
  refine wp_list (f := Val.int) (fun xs e => (∃ c, e = [.opq 0 sv, c, cSome, cLeft, tl, .undef, .undef, .undef, .undef, .undef, .undef, .undef, .undef, .undef, .undef] ∧ Cup c) ∧ ∀ x, x ∈ xs → 1 ≤ x ∧ x ≤ 8) ?_ ?_ [3, 5, 6] ⟨⟨c, rfl, hc⟩, by decide⟩
  · intro e he
    obtain ⟨⟨c1, he, hc1⟩, _⟩ := he
    rw [he]
    clear he s0
    obtain ⟨b, row, c2, e2, hb, hr, hc2⟩ := sp_law_group 16 c1 hc1
    have hpb := gBs_prd b hb
    have hpl := hpb.led hr
    have hfive := gBs_five b hb
    have hsh : shareV (ledP b row) = shareV b := by
      unfold shareV gP
      rw [nPairs_led hpb hr, ledP_len]
    have e3 := sp_meeting_share 13 hpl
    rw [hsh] at e3
    obtain ⟨c3, e4, hc3⟩ := sp_right46 c2 hc2 hpl
    obtain ⟨rows, c4, e5, ⟨hp5, _⟩, hc4⟩ := sp_product 17 c3 8 hc3 (by omega) (by omega)
    obtain ⟨c5, e6, hc5⟩ := sp_right46 c4 hc4 hp5
    obtain ⟨G, hG⟩ : ∃ G, G = ledP b row := ⟨_, rfl⟩
    rw [← hG] at e2 e3 e4
    have s8 : ex (callF p 19) (.asg 6 0 (.call i__law_group [(.io 1)] [1] 0)) [.opq 0 sv, c1, cSome, cLeft, tl, .undef, .undef, .undef, .undef, .undef, .undef, .undef, .undef, .undef, .undef] = .nx [.opq 0 sv, c2, cSome, cLeft, tl, .undef, prV G, .undef, .undef, .undef, .undef, .undef, .undef, .undef, .undef] := by
      simp -implicitDefEqProofs [-bifn_tuple, undefd_of hc1.dat, e2]
    have s9 : ex (callF p 19) (.ite (.or (.not (.call i__law_right [(.io 1), (.var 6)] [1] 0)) (.not (.call i__law_right [(.io 1), (.call i__law_product [(.io 1), (.int 8)] [1] 0)] [1] 0))) [.ret (.bl false)] []) [.opq 0 sv, c2, cSome, cLeft, tl, .undef, prV G, .undef, .undef, .undef, .undef, .undef, .undef, .undef, .undef] = .nx [.opq 0 sv, c5, cSome, cLeft, tl, .undef, prV G, .undef, .undef, .undef, .undef, .undef, .undef, .undef, .undef] := by
      simp -implicitDefEqProofs [-bifn_tuple, undefd_pr, undefd_of hc2.dat, undefd_of hc3.dat, undefd_of hc4.dat, e4, e5, e6]
    obtain ⟨A, hA⟩ : ∃ A : Int, A = nPairs b / (gP b : Int) := ⟨_, rfl⟩
    obtain ⟨B, hB⟩ : ∃ B : Int, B = ((b.length * b.length : Nat) : Int) / (gP b : Int) := ⟨_, rfl⟩
    have hAB : shareV b = .tup [.int A, .int B] := by rw [hA, hB]; rfl
    rw [hAB] at e3
    have s10 : ex (callF p 19) (.asgT [7, 8] (.call i_meeting_share [(.var 6)] [] 0)) [.opq 0 sv, c5, cSome, cLeft, tl, .undef, prV G, .undef, .undef, .undef, .undef, .undef, .undef, .undef, .undef] = .nx [.opq 0 sv, c5, cSome, cLeft, tl, .undef, prV G, .int A, .int B, .undef, .undef, .undef, .undef, .undef, .undef] := by
      simp -implicitDefEqProofs [-bifn_tuple, undefd_pr, e3]
    have hf : (A == 1 && B == 1) = true ∨ decide (8 * A ≤ 5 * B) = true := by
      rw [hA, hB]
      exact Bool.or_eq_true_iff.mp hfive
    have hc1 : cEq (.tup [.int A, .int B]) (.tup [.int 1, .int 1]) = some (A == 1 && B == 1) := by
      rw [cEq_of _ _ (id rfl) (id rfl) (.inl (Nat.le_of_ble_eq_true rfl)), eqv, eqvs, eqvs, eqvs, eqv, eqv]
      simp
    have hm8 : bMul (.int 8) (.int A) = some (.int (8 * A)) := bMul_int _ _ (.inl rfl)
    have hm5 : bMul (.int 5) (.int B) = some (.int (5 * B)) := bMul_int _ _ (.inl rfl)
    have s11 : ex (callF p 19) (.ite (.and (.cmp .ne (.tup [(.var 7), (.var 8)]) (.tup [(.int 1), (.int 1)])) (.cmp .gt (.bin .mul (.int 8) (.var 7)) (.bin .mul (.int 5) (.var 8)))) [.ret (.bl false)] []) [.opq 0 sv, c5, cSome, cLeft, tl, .undef, prV G, .int A, .int B, .undef, .undef, .undef, .undef, .undef, .undef] = .nx [.opq 0 sv, c5, cSome, cLeft, tl, .undef, prV G, .int A, .int B, .undef, .undef, .undef, .undef, .undef, .undef] := by
      cases hq : (A == 1 && B == 1) with
      | true =>
        rw [hq] at hc1
        simp -implicitDefEqProofs [hc1]
      | false =>
        rw [hq] at hc1 hf
        have h2 : 8 * A ≤ 5 * B := by
          rcases hf with h | h
          · cases h
          · exact of_decide_eq_true h
        have h3 : decide (5 * B < 8 * A) = false := decide_eq_false (by omega)
        simp -implicitDefEqProofs [hc1, hm8, hm5, h3]
    obtain ⟨r, c6, e7, hr6, hc6⟩ := sp_roll 18 c5 8 hc5 (by omega) (by omega)
    obtain ⟨m, hm⟩ : ∃ m : Nat, 1 + r = (m : Int) := ⟨(1 + r).toNat, by omega⟩
    have hm1 : 1 ≤ m := by omega
    have hm8' : m ≤ 8 := by omega
    have hk := chkM_ok hm1 hm8'
    unfold chkM at hk
    simp only [Bool.and_eq_true, beq_iff_eq] at hk
    obtain ⟨⟨⟨⟨⟨⟨⟨⟨k1, k2⟩, k3⟩, k4⟩, k5⟩, k6⟩, k7⟩, k8⟩, k9⟩ := hk
    have p1 := prd_of k1
    have p2 := prd_of k2
    have hri := range_nats m (by omega)
    have hnl := nats_lim m (by omega)
    have s12 : ex (callF p 19) (.asg 9 0 (.bin .add (.int 1) (.call i__law_roll [(.io 1), (.int 8)] [1] 0))) [.opq 0 sv, c5, cSome, cLeft, tl, .undef, prV G, .int A, .int B, .undef, .undef, .undef, .undef, .undef, .undef] = .nx [.opq 0 sv, c6, cSome, cLeft, tl, .undef, prV G, .int A, .int B, .int m, .undef, .undef, .undef, .undef, .undef] := by
      simp -implicitDefEqProofs [-bifn_tuple, undefd_of hc5.dat, e7, hm]
    have c13 : compN (.one 11) (testOf (evs (callF p 19) [])) (ev (callF p 19) (.bin .mul (.tup [(.var 11)]) (.var 9))) ((natsI m).map .int) [.opq 0 sv, c6, cSome, cLeft, tl, .undef, prV G, .int A, .int B, .int m, .undef, .undef, .undef, .undef, .undef] = .ok ((lefts m).map rowV) [.opq 0 sv, c6, cSome, cLeft, tl, .undef, prV G, .int A, .int B, .int m, .undef, .undef, .undef, .undef, .undef] := by
      unfold lefts
      rw [List.map_map]
      refine comp_list Val.int (rowV ∘ fun t => List.replicate m t) (natsI m) fun t _ => ⟨[.opq 0 sv, c6, cSome, cLeft, tl, .undef, prV G, .int A, .int B, .int m, .undef, .int t, .undef, .undef, .undef], rfl, rfl, ?_⟩
      simp -implicitDefEqProofs [bMul_one t m hm1 hm8']
    have t13 : bifn .tuple [.lst ((lefts m).map rowV)] = some (prV (lefts m)) := rfl
    obtain ⟨nv, hnv⟩ : ∃ nv, nv = (natsI m).map Val.int := ⟨_, rfl⟩
    obtain ⟨lv, hlv⟩ : ∃ lv, lv = (lefts m).map rowV := ⟨_, rfl⟩
    rw [← hnv] at hri hnl c13
    rw [← hlv] at c13 t13
    have s13 : ex (callF p 19) (.asg 10 0 (.bi .tuple [(.comp (.one 11) .range [(.var 9)] [] (.bin .mul (.tup [(.var 11)]) (.var 9)))])) [.opq 0 sv, c6, cSome, cLeft, tl, .undef, prV G, .int A, .int B, .int m, .undef, .undef, .undef, .undef, .undef] = .nx [.opq 0 sv, c6, cSome, cLeft, tl, .undef, prV G, .int A, .int B, .int m, prV (lefts m), .undef, .undef, .undef, .undef] := by
      simp -implicitDefEqProofs [-bifn_tuple, hri, hnl, c13, t13]
    have c14 : compN (.one 14) (testOf (evs (callF p 19) [])) (ev (callF p 19) (.bi .tuple [(.comp (.one 13) .range [(.var 9)] [] (.bin .mod (.bi .int [(.bin .mul (.var 14) (.var 13))]) (.var 9)))])) nv [.opq 0 sv, c6, cSome, cLeft, tl, .undef, prV G, .int A, .int B, .int m, prV (lefts m), .undef, .undef, .undef, .undef] = .ok ((rests m).map rowV) [.opq 0 sv, c6, cSome, cLeft, tl, .undef, prV G, .int A, .int B, .int m, prV (lefts m), .undef, .undef, .undef, .undef] := by
      unfold rests tab
      rw [List.map_map]
      conv => lhs; arg 4; rw [hnv]
      refine comp_list Val.int (rowV ∘ fun a => (natsI m).map fun b => a * b % (m : Int)) (natsI m) fun a ha => ?_
      have ha := natsI_mem.mp ha
      have hin : compN (.one 13) (testOf (evs (callF p 19) [])) (ev (callF p 19) (.bin .mod (.bi .int [(.bin .mul (.var 14) (.var 13))]) (.var 9))) nv [.opq 0 sv, c6, cSome, cLeft, tl, .undef, prV G, .int A, .int B, .int m, prV (lefts m), .undef, .undef, .undef, .int a] = .ok (((natsI m).map fun b => a * b % (m : Int)).map .int) [.opq 0 sv, c6, cSome, cLeft, tl, .undef, prV G, .int A, .int B, .int m, prV (lefts m), .undef, .undef, .undef, .int a] := by
        rw [hnv, List.map_map]
        refine comp_list Val.int (Val.int ∘ fun b => a * b % (m : Int)) (natsI m) fun b _ => ⟨[.opq 0 sv, c6, cSome, cLeft, tl, .undef, prV G, .int A, .int B, .int m, prV (lefts m), .undef, .undef, .int b, .int a], rfl, rfl, ?_⟩
        have h1 := bMul_int a b (.inl (small_of (by omega) (by omega)))
        have h2 := bMod_int (a * b) (m : Int) (by omega)
        simp -implicitDefEqProofs [h1, h2]
      have ht : bifn .tuple [.lst (((natsI m).map fun b => a * b % (m : Int)).map .int)] = some (rowV ((natsI m).map fun b => a * b % (m : Int))) := rfl
      obtain ⟨iv, hiv⟩ : ∃ iv, iv = ((natsI m).map fun b => a * b % (m : Int)).map Val.int := ⟨_, rfl⟩
      rw [← hiv] at hin ht
      refine ⟨[.opq 0 sv, c6, cSome, cLeft, tl, .undef, prV G, .int A, .int B, .int m, prV (lefts m), .undef, .undef, .undef, .int a], rfl, rfl, ?_⟩
      simp -implicitDefEqProofs [-bifn_tuple, hri, hnl, hin, ht]
    have t14 : bifn .tuple [.lst ((rests m).map rowV)] = some (prV (rests m)) := rfl
    obtain ⟨rv, hrv⟩ : ∃ rv, rv = (rests m).map rowV := ⟨_, rfl⟩
    rw [← hrv] at c14 t14
    have s14 : ex (callF p 19) (.asg 12 0 (.bi .tuple [(.comp (.one 14) .range [(.var 9)] [] (.bi .tuple [(.comp (.one 13) .range [(.var 9)] [] (.bin .mod (.bi .int [(.bin .mul (.var 14) (.var 13))]) (.var 9)))]))])) [.opq 0 sv, c6, cSome, cLeft, tl, .undef, prV G, .int A, .int B, .int m, prV (lefts m), .undef, .undef, .undef, .undef] = .nx [.opq 0 sv, c6, cSome, cLeft, tl, .undef, prV G, .int A, .int B, .int m, prV (lefts m), .undef, prV (rests m), .undef, .undef] := by
      simp -implicitDefEqProofs [-bifn_tuple, hri, hnl, c14, t14]
    have q1 := sp_meeting_share 13 p1
    have q2 := sp_full_meeting_lots 13 p1
    have q3 := sp_meeting_share 13 p2
    have q4 := sp_full_meeting_lots 13 p2
    have q5 := sp_is_meeting_lot 13 p2 60 (rowV (natsI m)) (row_dat _ _ (by rw [natsI_len]; omega))
    have z1 : shareV (lefts m) = .tup [.int 1, .int m] := by unfold shareV; rw [k3, k4]
    have z3 : shareV (rests m) = .tup [.int 1, .int 1] := by unfold shareV; rw [k5, k6]
    rw [z1] at q1
    rw [z3] at q3
    rw [k7] at q2
    rw [k8] at q4
    rw [k9] at q5
    have hrt := bi_rgT m (by omega)
    obtain ⟨sg, hsg⟩ : ∃ sg, sg = ((natsI m).map fun t => [t]).map rowV := ⟨_, rfl⟩
    rw [← hsg] at q2
    have q4' : callF p (13 + 6) i_full_meeting_lots [prV (rests m)] = .ok (.tup [rowV (natsI m)]) [] := q4
    obtain ⟨tv, htv⟩ : ∃ tv, tv = Val.lst [.tup [.int 1, .int m], .tup sg, .tup [.int 1, .int 1], .tup [rowV (natsI m)], .bl true] := ⟨_, rfl⟩
    have s15 : ex (callF p 19) (.asg 4 0 (.lst [(.call i_meeting_share [(.var 10)] [] 0), (.call i_full_meeting_lots [(.var 10)] [] 0), (.call i_meeting_share [(.var 12)] [] 0), (.call i_full_meeting_lots [(.var 12)] [] 0), (.call i_is_meeting_lot [(.var 12), (.bi (.rg true) [(.var 9)])] [] 0)])) [.opq 0 sv, c6, cSome, cLeft, tl, .undef, prV G, .int A, .int B, .int m, prV (lefts m), .undef, prV (rests m), .undef, .undef] = .nx [.opq 0 sv, c6, cSome, cLeft, tv, .undef, prV G, .int A, .int B, .int m, prV (lefts m), .undef, prV (rests m), .undef, .undef] := by
      rw [htv]
      simp -implicitDefEqProofs [-bifn_tuple, undefd_pr, undefd_row, q1, q2, q3, q4', q5, hrt]
    have c16 : compN (.one 11) (testOf (evs (callF p 19) [])) (ev (callF p 19) (.tup [(.var 11)])) nv [.opq 0 sv, c6, cSome, cLeft, tv, .undef, prV G, .int A, .int B, .int m, prV (lefts m), .undef, prV (rests m), .undef, .undef] = .ok sg [.opq 0 sv, c6, cSome, cLeft, tv, .undef, prV G, .int A, .int B, .int m, prV (lefts m), .undef, prV (rests m), .undef, .undef] := by
      rw [hsg, List.map_map]
      conv => lhs; arg 4; rw [hnv]
      refine comp_list Val.int (rowV ∘ fun t => [t]) (natsI m) fun t _ => ⟨[.opq 0 sv, c6, cSome, cLeft, tv, .undef, prV G, .int A, .int B, .int m, prV (lefts m), .int t, prV (rests m), .undef, .undef], rfl, rfl, ?_⟩
      simp -implicitDefEqProofs [rowV]
    have t16 : bifn .tuple [.lst sg] = some (.tup sg) := rfl
    have hsgl : sg.length = m := by rw [hsg, List.length_map, List.length_map, natsI_len]
    have hsgd : ∀ x, x ∈ sg → dat 1000 x = true ∧ dep x ≤ 1 := by
      intro x hx
      rw [hsg] at hx
      obtain ⟨l, hl, rfl⟩ := List.mem_map.mp hx
      obtain ⟨t, _, rfl⟩ := List.mem_map.mp hl
      exact ⟨row_dat [t] 1000 (by simp), dep_rowV _⟩
    have hnr : dat 1000 (rowV (natsI m)) = true ∧ dep (rowV (natsI m)) ≤ 1 := ⟨row_dat _ _ (by rw [natsI_len]; omega), dep_rowV _⟩
    have g := like4 tv (by
      rw [htv]
      refine dat_of (by simp) fun x hx => ?_
      simp only [List.mem_cons, List.not_mem_nil, or_false] at hx
      rcases hx with e | e | e | e | e <;> subst e
      · exact row_dat [_, _] 1000 (by simp)
      · exact dat_ofT (by omega) fun x hx => (hsgd x hx).1
      · exact row_dat [_, _] 1000 (by simp)
      · exact dat_ofT (by simp) fun x hx => by rw [List.mem_singleton.mp hx]; exact hnr.1
      · simp) (by
      rw [htv]
      refine Nat.le_trans (dep_lst' (d := 2) fun x hx => ?_) (by omega)
      simp only [List.mem_cons, List.not_mem_nil, or_false] at hx
      rcases hx with e | e | e | e | e <;> subst e
      · exact Nat.le_succ_of_le (dep_rowV [_, _])
      · exact dep_tup' fun x hx => (hsgd x hx).2
      · exact Nat.le_succ_of_le (dep_rowV [_, _])
      · exact dep_tup' fun x hx => by rw [List.mem_singleton.mp hx]; exact hnr.2
      · simp [dep])
    have utv : ∀ {β : Type} (z k : β), undefd tv z k = k := by rw [htv]; intros; rfl
    rw [exs_cons, s8, seqO_nx, exs_cons, s9, seqO_nx, exs_cons, s10, seqO_nx, exs_cons, s11, seqO_nx, exs_cons, s12, seqO_nx, exs_cons, s13, seqO_nx, exs_cons, s14, seqO_nx, exs_cons, s15, seqO_nx]
    simp -implicitDefEqProofs [-bifn_tuple, undefd_row, utv, hri, hnl, c16, t16, hrt, ← htv, g]
  · intro x xs e he
    obtain ⟨⟨c1, he, hc1⟩, hx⟩ := he
    rw [he]
    clear he s0
    refine ⟨_, rfl, ?_⟩
    have hx1 := hx x (by simp)
    obtain ⟨rows, c2, e2, ⟨hp, _⟩, hc2⟩ := sp_product 17 c1 x hc1 hx1.1 hx1.2
    obtain ⟨c3, e3, hc3⟩ := sp_right46 c2 hc2 hp
    simp -implicitDefEqProofs [undefd_of hc1.dat, undefd_of hc2.dat, undefd_pr, e2, e3, hc3]
    exact fun y hy => hx y (by simp [hy])
end Mp
set_option Elab.async false
set_option linter.all false
set_option maxRecDepth 100000
set_option maxHeartbeats 0
namespace MpH
open PySem PySem.Spec PyProof.Rows L2 Mp
def top (i : Nat) : Stmt := PySem.Challenge.pw_productstold_k46_whole_things_that_meet.main.body.getD i (.Pass ⟨0, 0, 0, 0⟩)
def df (i : Nat) (n : Str) : He.DefD := ⟨(n, none), n, n, defArgs (top i), defBody (top i), defScope (top i), [], []⟩
def ds : List He.DefD := ([df 7 "is_integer", df 8 "is_whole", df 9 "is_tuple_of", df 10 "is_rising", df 11 "are_things", df 12 "fits_product", df 13 "need_product", df 14 "need_thing", df 15 "led_in", df 16 "fits_row", df 17 "turned_product", df 18 "led_product", df 20 "is_met", df 21 "met_by", df 22 "pairs_in", df 23 "divisor_of", df 24 "are_met", df 25 "fits_meeting", df 26 "full_in", df 27 "do_meet"] : List He.DefD) ++ ([df 28 "meeting_things", df 29 "count_meeting_pairs", df 30 "meeting_share", df 31 "is_meeting_lot", df 32 "full_meeting_lots", df 34 "_law_cup", df 35 "_law_roll", df 36 "_law_sort", df 37 "_law_like", df 38 "_law_some", df 39 "_law_product", df 40 "_law_order", df 41 "_law_led", df 42 "_law_lots", df 43 "_law_group", df 44 "_law_twice", df 45 "_law_common", df 46 "_law_is_met", df 47 "_law_right", df 48 "law"] : List He.DefD)
def loose : List Str := (["ProductError", "InvalidProduct", "InvalidThing", "InvalidRow", "MOST", "is_integer", "is_whole", "is_tuple_of", "is_rising", "are_things", "fits_product", "need_product"] : List PySem.Str) ++ (["need_thing", "led_in", "fits_row", "turned_product", "led_product", "is_met", "met_by", "pairs_in", "divisor_of", "are_met", "fits_meeting", "full_in"] : List PySem.Str) ++ (["do_meet", "meeting_things", "count_meeting_pairs", "meeting_share", "is_meeting_lot", "full_meeting_lots", "_law_cup", "_law_roll", "_law_sort", "_law_like", "_law_some", "_law_product"] : List PySem.Str) ++ (["_law_order", "_law_led", "_law_lots", "_law_group", "_law_twice", "_law_common", "_law_is_met", "_law_right"] : List PySem.Str)
def dlaw : DefRec := HandSHeadRun.topDef PySem.Challenge.pw_productstold_k46_whole_things_that_meet 48
abbrev R : PySem.W.OpenRow := PySem.W.OpenLaw.row PySem.Challenge.rw_productstold_k46_whole_things_that_meet
noncomputable abbrev hk : PySem.W.Hook := hookM 4 (facts T_p) ds T_p.consts
def ob (s : PySem.W.SharedT) : AlM := obsM 4 (facts T_p) ds T_p.consts (HandSHeadRun.getT s)
theorem ob_eq (s : PySem.W.SharedT) : ob s = hk.obs s.abs := by
  show obsM _ _ _ _ _ = obsM _ _ _ _ _
  rw [show HandSHeadRun.getT s = s.abs.heap.get? from funext (HandSHeadRun.getT_eq s)]
theorem run (w : World) : HandSHeadRun.RunEq R (PySem.W.view R.prog [48]) hk ob 20000 loose w := by
  intro os
  kernel_rfl
theorem defs_ok : defsB T_p T_p.P ds = true := by decide +kernel
theorem walk : PySem.W.WalkO (PySem.W.view R.prog [48]) loose (PySem.W.XL (PySem.W.view R.prog [48]) []) hk.says (PySem.W.OpenLaw.row PySem.Challenge.rw_productstold_k46_whole_things_that_meet).toRowW dlaw [] (fun f vs => PySem.call f vs) := by
  refine law_walk (l := PySem.Challenge.rw_productstold_k46_whole_things_that_meet) (n := 63) (k := 20) (f0 := i_law) (fn := p_law) (x := "script") rfl (by decide) (by kernel_rfl) ⟨by decide, by decide, by decide⟩ rfl (by kernel_rfl) rfl rfl defs_ok (fun ns h => sp_law ns (by omega)) (by kernel_rfl)
end MpH
open PySem PySem.W PySem.Calls PyProof.Rows
theorem PySem.Challenge.cw_productstold_k46_whole_things_that_meet_holds : PySem.Challenge.rw_productstold_k46_whole_things_that_meet.Holds := by
  w_on; o_law
  refine HandSHeadRun.head_any (r := OpenLaw.row PySem.Challenge.rw_productstold_k46_whole_things_that_meet) (q := view (OpenLaw.row PySem.Challenge.rw_productstold_k46_whole_things_that_meet).prog [48]) (H := MpH.hk) (ob := MpH.ob) (M := 20000) (loose := MpH.loose) (d := MpH.dlaw) (kwd := []) MpH.ob_eq
    (by kernel_rfl) (fun s => by kernel_rfl) MpH.run (by kernel_rfl) (by kernel_rfl) (by kernel_rfl) (by rfl) (by first | assumption | decide +kernel) (by decide +kernel) ⟨rfl, rfl, rfl, rfl, rfl, by decide +kernel⟩ ?hw ?hc
  case hw => w_witness2
  case hc => exact MpH.walk
