import PyProof.Rows.All
import Wide.All
import OpenK.AllK
import Wide.FinOn
import HandS.ForMost
import HandS.Deep
import HandS.IsInst
import HandS.TupAny
import HandS.TupLe
import HandS.DictTup
import HandS.DictComp
import HandS.Conv
import HandS.Zip
import HandS.Defaults
import KE.SortData
import KE.SortKeyHeap
import KE.DataCmp
import KE.DataEq
import KE.GoesMore
import KE.GoesEnum
import HandS.Codes
import HandS.Style
import PyProof.ReprRoads
import PyProof.ReprLen
import HandS.TupSets
import HandS.SortKw
import KE.KSortKey
import HandS.Ends
import HandS.Head0
import HandS.Head1
import HandS.Head2
import HandS.HeadEnd
import HandS.HeadHook1
import HandS.HeadHook2
import Lean
import PySem.Challenge.RW_stairfaces_k08_walls_parts_tips
set_option autoImplicit false
set_option Elab.async false
set_option linter.all false
section
set_option autoImplicit false
set_option linter.all false
/-! Mini: a plain evaluator of the Python subset of the law texts. Values are trees; locals are slots; a small store holds the dicts that defs share. -/
namespace Mini

/-- a value -/
inductive D where
  | non | bl (b : Bool) | int (i : Int) | str (s : List Nat) | tup (xs : List D) | lst (xs : List D)
  | dct (kvs : List (D × D)) | set (xs : List D) | ref (n : Nat) | fn (n : Nat)
  /-- a tuple that the module's top has written -/
  | wt (xs : List D)

/-- the store: dicts with text keys -/
abbrev St := List (List (List Nat × D))
/-- a slot: empty, a value, a list or dict that this def alone holds and may change -/
inductive Sl where
  | un | sh (d : D) | ow (d : D)
abbrev Env := List Sl

inductive Bin where
  | add | sub | mul | fdiv | mod | pow
  deriving DecidableEq
inductive Cm where
  | lt | le | gt | ge | eq | ne | is | isn | mem | nmem
  deriving DecidableEq
inductive Bi where
  | len | int | abs | max2 | min2 | tuple | list | sum | any | all | repr | set | sorted | sortedSet | sortedLenRev
  | isInt | isBool | isTuple
  deriving DecidableEq

inductive T where
  | nil | cons (a r : T)
  | cst (d : D) | var (i : Nat) | glo (n : Nat) | fnv (n : Nat)
  | bin (o : Bin) (a b : T) | neg (a : T) | nt (a : T) | and (a b : T) | or (a b : T) | ife (c a b : T)
  | cmp (o : Cm) (a b : T) | chn (o p : Cm) (a b c : T)
  | call (f : Nat) (as : T) | callK (f : Nat) (as ks : T) (names : List (List Nat)) (perm : List Nat) | callV (f as : T)
  | bi (o : Bi) (as : T) | srtS (a : T) | srtL (a : T)
  | ix (a i : T) | slc (a lo hi : T)
  | tup (as : T) | lst (as : T) | dsp (as : T) | pair (a b : T)
  | lc (own : List Nat) (e tg it cs : T)
  | lc2 (own vs1 : List Nat) (e tg it cs tg1 it1 cs1 : T)
  | dc (own : List Nat) (k v tg it cs : T)
  | get2 (o k d : T)
  | rng1 (a : T) | rng2 (a b : T) | enm (a : T) | zip (a b : T)
  -- statements
  | asg (tg e : T) | asgO (i : Nat) (e : T) | asgM (m k e : T)
  | aug (i : Nat) (o : Bin) (e : T)
  | app (i : Nat) (e : T) | setI (i : Nat) (k e : T)
  | frs (e : T) | par (tgs is : T)
  | ret (e : T) | exp (e : T)
  | ifs (c a b : T) | for_ (tg it b : T) | whl (c b : T)
  | brk | cnt | pas | fz (i : Nat)

/-! ### values -/
mutual
/-- Python's == of plain values -/
def eqD : D → D → Bool
  | .non, .non => true
  | .bl a, .bl b => a == b
  | .bl a, .int j => (if a then 1 else 0) == j
  | .int i, .bl b => i == (if b then 1 else 0)
  | .int i, .int j => i == j
  | .str s, .str t => s == t
  | .tup xs, .tup ys => eqDs xs ys
  | .lst xs, .lst ys => eqDs xs ys
  | .wt xs, .wt ys => eqDs xs ys
  | .wt xs, .tup ys => eqDs xs ys
  | .tup xs, .wt ys => eqDs xs ys
  | _, _ => false
def eqDs : List D → List D → Bool
  | [], [] => true
  | x :: xs, y :: ys => eqD x y && eqDs xs ys
  | _, _ => false
end
mutual
/-- no dict, set, store or def in it -/
def plain : D → Bool
  | .non | .bl _ | .int _ | .str _ => true
  | .tup xs | .lst xs | .wt xs => plains xs
  | _ => false
def plains : List D → Bool
  | [] => true
  | x :: xs => plain x && plains xs
end
mutual
def depth : D → Nat
  | .tup xs | .lst xs | .wt xs => depths xs + 1
  | _ => 0
def depths : List D → Nat
  | [] => 0
  | x :: xs => max (depth x) (depths xs)
end
mutual
/-- can be compared by <, place by place -/
def alike : D → D → Bool
  | .non, .non => true
  | .bl _, .bl _ => true
  | .int _, .int _ => true
  | .str _, .str _ => true
  | .lst xs, .lst ys => alikes xs ys
  | .tup xs, .tup ys => alikes xs ys
  | .wt xs, .wt ys => alikes xs ys
  | .wt xs, .tup ys => alikes xs ys
  | .tup xs, .wt ys => alikes xs ys
  | _, _ => false
def alikes : List D → List D → Bool
  | x :: xs, y :: ys => alike x y && alikes xs ys
  | [], _ => true
  | _ :: _, [] => true
end
mutual
/-- Python's < of alike values -/
def ltD : D → D → Bool
  | .bl a, .bl b => !a && b
  | .int i, .int j => decide (i < j)
  | .str s, .str t => decide (s < t)
  | .tup xs, .tup ys => ltDs xs ys
  | .wt xs, .wt ys => ltDs xs ys
  | .wt xs, .tup ys => ltDs xs ys
  | .tup xs, .wt ys => ltDs xs ys
  | .lst xs, .lst ys => ltDs xs ys
  | _, _ => false
def ltDs : List D → List D → Bool
  | [], [] => false
  | [], _ :: _ => true
  | _ :: _, [] => false
  | x :: xs, y :: ys => if eqD x y then ltDs xs ys else ltD x y
end
def isIntD : D → Bool
  | .int _ => true
  | _ => false
def isIntTup : D → Bool
  | .tup xs => xs.all isIntD
  | _ => false
/-- a list that sorted takes -/
def isNon : D → Bool
  | .non => true
  | _ => false
def shallow (d : D) : Bool := plain d && decide (depth d ≤ 60)
def sortable (xs : List D) : Bool := xs.all isIntD || xs.all isIntTup || (xs.all (fun x => shallow x && !isNon x) && xs.all fun x => xs.all fun y => alike x y)
/-- put in ahead of the first that is greater (stable: behind equal ones) -/
def insD (x : D) : List D → List D
  | [] => [x]
  | y :: ys => if ltD x y then x :: y :: ys else y :: insD x ys
def sortD : List D → List D
  | [] => []
  | x :: xs => insL x (sortD xs)
where
  /-- ahead of equal ones (x came first) -/
  insL (x : D) : List D → List D
    | [] => [x]
    | y :: ys => if ltD y x then y :: insL x ys else x :: y :: ys
def lenD : D → Option Nat
  | .str s => if s.length ≤ 16777216 then some s.length else none
  | .tup xs | .lst xs | .wt xs => some xs.length
  | _ => none
/-- by length, the longest first, equal ones in their order -/
def sortLenRev : List D → List D
  | [] => []
  | x :: xs => insR x (sortLenRev xs)
where
  insR (x : D) : List D → List D
    | [] => [x]
    | y :: ys => if (lenD x).getD 0 < (lenD y).getD 0 then y :: insR x ys else x :: y :: ys

/-! ### texts -/
def intText (i : Int) : List Nat := (toString i).toList.map Char.toNat
mutual
def reprD : D → List Nat
  | .non => [78, 111, 110, 101]
  | .bl true => [84, 114, 117, 101]
  | .bl false => [70, 97, 108, 115, 101]
  | .int i => intText i
  | .tup [] => [40, 41]
  | .tup [x] => [40] ++ reprD x ++ [44, 41]
  | .tup (x :: y :: r) => [40] ++ reprD x ++ reprDs (y :: r) ++ [41]
  | .wt [] => [40, 41]
  | .wt [x] => [40] ++ reprD x ++ [44, 41]
  | .wt (x :: y :: r) => [40] ++ reprD x ++ reprDs (y :: r) ++ [41]
  | .lst [] => [91, 93]
  | .lst (x :: r) => [91] ++ reprD x ++ reprDs r ++ [93]
  | _ => []
def reprDs : List D → List Nat
  | [] => []
  | x :: r => [44, 32] ++ reprD x ++ reprDs r
end
mutual
/-- ints below 10^12, no texts -/
def showD : D → Bool
  | .non | .bl _ => true
  | .int i => decide (i.natAbs < 10 ^ 12)
  | .tup xs | .lst xs | .wt xs => showDs xs
  | _ => false
def showDs : List D → Bool
  | [] => true
  | x :: r => showD x && showDs r
end
mutual
/-- how many values it has -/
def wD : D → Nat
  | .tup xs | .lst xs | .wt xs => wDs xs + 1
  | .int _ => 45
  | _ => 1
def wDs : List D → Nat
  | [] => 0
  | x :: r => wD x + wDs r
end

/-! ### dicts -/
def look (kvs : List (D × D)) (k : D) : Option D := (kvs.find? fun p => eqD p.1 k).map (·.2)
def put (kvs : List (D × D)) (k v : D) : List (D × D) := if kvs.any (fun p => eqD p.1 k) then kvs.map (fun p => if eqD p.1 k then (p.1, v) else p) else kvs ++ [(k, v)]
def isKeyAtom : D → Bool
  | .int _ | .str _ => true
  | _ => false
/-- a tuple of ints and texts -/
def isKeyTup : D → Bool
  | .tup xs => xs.all isKeyAtom
  | _ => false
def lookS (o : List (List Nat × D)) (k : List Nat) : Option D := (o.find? fun p => p.1 == k).map (·.2)
def putS (o : List (List Nat × D)) (k : List Nat) (v : D) : List (List Nat × D) := if o.any (fun p => p.1 == k) then o.map (fun p => if p.1 == k then (p.1, v) else p) else o ++ [(k, v)]

def LIM : Nat := 2 ^ 24
/-- i within 64 bits, or j -/
def mulOk (i j : Int) : Bool := decide (-(2 ^ 64) < i) && decide (i < 2 ^ 64) || decide (-(2 ^ 64) < j) && decide (j < 2 ^ 64)

def addD : D → D → Option D
  | .int i, .int j => some (.int (i + j))
  | .str s, .str t => if s.length + t.length ≤ LIM then some (.str (s ++ t)) else none
  | .tup xs, .tup ys => if xs.length + ys.length ≤ LIM then some (.tup (xs ++ ys)) else none
  | .lst xs, .lst ys => if xs.length + ys.length ≤ LIM then some (.lst (xs ++ ys)) else none
  | _, _ => none
def subD : D → D → Option D
  | .int i, .int j => some (.int (i - j))
  | _, _ => none
def mulD : D → D → Option D
  | .int i, .int j => if mulOk i j then some (.int (i * j)) else none
  | .lst xs, .int k => if 0 ≤ k ∧ k ≤ 1000000 ∧ xs.length * k.toNat ≤ LIM then some (.lst (List.replicate k.toNat xs).flatten) else none
  | _, _ => none
def fdivD : D → D → Option D
  | .int i, .int j => if 0 < j ∧ j < 1073741824 then some (.int (i / j)) else none
  | _, _ => none
def modD : D → D → Option D
  | .int i, .int j => if 0 < j then some (.int (i % j)) else none
  | _, _ => none
def powD : D → D → Option D
  | .int i, .int j => if 0 ≤ j ∧ j ≤ 1000000 ∧ i.natAbs < 2 ^ 64 then some (.int (i ^ j.toNat)) else none
  | _, _ => none
def binD : Bin → D → D → Option D
  | .add => addD
  | .sub => subD
  | .mul => mulD
  | .fdiv => fdivD
  | .mod => modD
  | .pow => powD

def memD (x : D) : D → Option Bool
  | .tup xs | .lst xs | .wt xs => if shallow x && plains xs then some (xs.any fun y => eqD y x) else none
  | .dct kvs => if isKeyTup x && kvs.all (fun p => isKeyTup p.1) then some (kvs.any fun p => eqD p.1 x) else none
  | _ => none
def ordable (a b : D) : Bool := plain a && plain b && alike a b && !isNon a && decide (depth a ≤ 60)
def ltC (a b : D) : Option Bool := if ordable a b then some (ltD a b) else none
def gtC (a b : D) : Option Bool := if ordable a b then some (ltD b a) else none
def leC (a b : D) : Option Bool := if ordable a b then some (!ltD b a) else none
def geC (a b : D) : Option Bool := if ordable a b then some (!ltD a b) else none
def isC (a : D) : D → Option Bool
  | .non => some (isNon a)
  | _ => none
def eqC (a b : D) : Option Bool := if shallow a && shallow b then some (eqD a b) else none
def cmpD : Cm → D → D → Option Bool
  | .lt, a, b => ltC a b
  | .gt, a, b => gtC a b
  | .le, a, b => leC a b
  | .ge, a, b => geC a b
  | .eq, a, b => eqC a b
  | .ne, a, b => (eqC a b).map (!·)
  | .is, a, b => isC a b
  | .isn, a, b => (isC a b).map (!·)
  | .mem, a, b => memD a b
  | .nmem, a, b => (memD a b).map (!·)
/-- truth as a test asks it: bools alone -/
def tru : D → Option Bool
  | .bl b => some b
  | _ => none

/-- the place of an index -/
def place (n : Nat) (i : Int) : Option Nat := if 0 ≤ i then (if i.toNat < n then some i.toNat else none) else if 0 ≤ i + n then some (i + n).toNat else none
def ixD (st : St) : D → D → Option D
  | .tup xs, .int i | .lst xs, .int i | .wt xs, .int i => (place xs.length i).bind fun k => xs[k]?
  | .dct kvs, k => if isKeyTup k && kvs.all (fun p => isKeyTup p.1) then look kvs k else none
  | .ref n, .str k => (st[n]?).bind fun o => lookS o k
  | _, _ => none
/-- a bound of a slice -/
def clip (n : Nat) (d : Nat) : D → Option Nat
  | .non => some d
  | .int i => some (if 0 ≤ i then min i.toNat n else (i + n).toNat)
  | _ => none
def cutL (xs : List D) (lo hi : Nat) : List D := (xs.drop lo).take (hi - lo)
def slcD : D → D → D → Option D
  | .tup xs, lo, hi => (clip xs.length 0 lo).bind fun a => (clip xs.length xs.length hi).bind fun b => some (.tup (cutL xs a b))
  | .lst xs, lo, hi => (clip xs.length 0 lo).bind fun a => (clip xs.length xs.length hi).bind fun b => some (.lst (cutL xs a b))
  | _, _, _ => none
/-- a bound's value: left out, or an int -/
def bndD : T → D → Option D
  | .cst .non, .non => some .non
  | _, .int i => some (.int i)
  | _, _ => none
def intsOf : List D → Option (List Int)
  | [] => some []
  | .int i :: r => (intsOf r).map (i :: ·)
  | _ => none
def boolsOf : List D → Option (List Bool)
  | [] => some []
  | .bl b :: r => (boolsOf r).map (b :: ·)
  | _ => none
/-- each once, the first of equal ones -/
def nubD : List D → List D
  | [] => []
  | x :: r => x :: (nubD r).filter fun y => !eqD x y
def itemsD : D → Option (List D)
  | .tup xs | .lst xs | .wt xs => some xs
  | .dct kvs => some (kvs.map (·.1))
  | .set xs => some xs
  | _ => none
def isSet : D → Bool
  | .set _ => true
  | _ => false
/-- what a loop walks -/
def seqD : D → Option (List D)
  | .tup xs | .lst xs | .wt xs => some xs
  | _ => none
def biD : Bi → List D → Option D
  | .len, [d] => (lenD d).map fun n => .int n
  | .int, [.int i] => some (.int i)
  | .int, [.bl b] => some (.int (if b then 1 else 0))
  | .abs, [.int i] => some (.int (if i < 0 then -i else i))
  | .max2, [.int i, .int j] => some (.int (if j > i then j else i))
  | .min2, [.int i, .int j] => some (.int (if j < i then j else i))
  | .tuple, [.tup xs] | .tuple, [.lst xs] => some (.tup xs)
  | .list, [.tup xs] | .list, [.lst xs] => some (.lst xs)
  | .sum, [.lst xs] => (intsOf xs).map fun ns => .int ns.sum
  | .any, [.lst xs] => (boolsOf xs).map fun bs => .bl (bs.any id)
  | .all, [.lst xs] => (boolsOf xs).map fun bs => .bl (bs.all id)
  | .repr, [d] => if shallow d && showD d && decide (wD d ≤ 1000000) then some (.str (reprD d)) else none
  | .sorted, [d] => (itemsD d).bind fun xs => if sortable xs && !isSet d then some (.lst (sortD xs)) else none
  | .sortedSet, [.lst xs] => if xs.all isIntTup && decide (xs.length < 64) then some (.lst (sortD (nubD xs))) else none
  | .sortedLenRev, [d] => (itemsD d).bind fun xs => if xs.all isIntTup && !isSet d then some (.lst (sortLenRev xs)) else none
  | .isInt, [d] => match d with | .int _ | .bl _ => some (.bl true) | .ref _ | .fn _ | .set _ => none | _ => some (.bl false)
  | .isBool, [d] => match d with | .bl _ => some (.bl true) | .ref _ | .fn _ | .set _ => none | _ => some (.bl false)
  | .isTuple, [d] => match d with | .tup _ | .wt _ => some (.bl true) | .ref _ | .fn _ | .set _ => none | _ => some (.bl false)
  | _, _ => none

/-! ### slots -/
def slotV : Option Sl → Option D
  | some (.sh d) => some d
  | _ => none
def slotB : Option Sl → Option D
  | some (.sh d) | some (.ow d) => some d
  | _ => none
def setV (env : Env) (i : Nat) (s : Sl) : Option Env := if i < env.length then some (env.set i s) else none
def wipeE (env : Env) : List Nat → Env
  | [] => env
  | v :: vs => (wipeE env vs).set v .un
mutual
/-- a target gets a value -/
def asgT : T → D → Env → Option Env
  | .var i, d, env => setV env i (.sh d)
  | .tup ts, .tup xs, env => asgTs ts xs env
  | _, _, _ => none
def asgTs : T → List D → Env → Option Env
  | .nil, [], env => some env
  | .cons t r, x :: xs, env => (asgT t x env).bind fun env' => asgTs r xs env'
  | _, _, _ => none
end

/-! ### expressions -/
abbrev CallF := Nat → List D → St → Option (D × St)
/-- a comprehension's turns -/
def lcGo (asg : D → Option Env) (test : Env → St → Option (Bool × St)) (elt : Env → St → Option (List D × St)) : List D → St → Option (List D × St)
  | [], st => some ([], st)
  | x :: xs, st => (asg x).bind fun env => (test env st).bind fun (b, st1) =>
      if b then (elt env st1).bind fun (ys, st2) => (lcGo asg test elt xs st2).bind fun (zs, st3) => some (ys ++ zs, st3)
      else lcGo asg test elt xs st1
def dcGo (asg : D → Option Env) (test : Env → St → Option (Bool × St)) (ky : Env → St → Option (D × St)) (vl : Env → St → Option (D × St)) : List D → St → List (D × D) → Option (List (D × D) × St)
  | [], st, acc => some (acc, st)
  | x :: xs, st, acc => (asg x).bind fun env => (test env st).bind fun (b, st1) =>
      if b then (ky env st1).bind fun (k, st2) => (vl env st2).bind fun (v, st3) => if isKeyTup k then dcGo asg test ky vl xs st3 (put acc k v) else none
      else dcGo asg test ky vl xs st1 acc
def one (r : Option (D × St)) : Option (List D × St) := r.map fun (d, st) => ([d], st)
def guardLen (r : Option (List D × St)) : Option (D × St) := r.bind fun (xs, st) => if xs.length ≤ LIM then some (.lst xs, st) else none
def permD (xs : List D) (p : List Nat) : Option (List D) := p.mapM fun i => xs[i]?

structure Cfg where
  consts : List D
  call : CallF

section
variable (C : Cfg)
mutual
/-- bw: a name that this def alone holds may be looked at -/
def evE (bw : Bool) : T → Env → St → Option (D × St)
  | .cst d, _, st => some (d, st)
  | .var i, env, st => (if bw then slotB env[i]? else slotV env[i]?).map (·, st)
  | .glo n, _, st => (C.consts[n]?).map (·, st)
  | .fnv n, _, st => some (.fn n, st)
  | .bin o a b, env, st => (evE true a env st).bind fun (x, s1) => (evE true b env s1).bind fun (y, s2) => (binD o x y).map (·, s2)
  | .neg a, env, st => (evE true a env st).bind fun (x, s1) => match x with | .int i => some (.int (-i), s1) | _ => none
  | .nt a, env, st => (evE true a env st).bind fun (x, s1) => (tru x).map fun b => (.bl (!b), s1)
  | .and a b, env, st => (evE true a env st).bind fun (x, s1) => (tru x).bind fun c => if c then evE bw b env s1 else some (.bl false, s1)
  | .or a b, env, st => (evE true a env st).bind fun (x, s1) => (tru x).bind fun c => if c then some (.bl true, s1) else evE bw b env s1
  | .ife c a b, env, st => (evE true c env st).bind fun (x, s1) => (tru x).bind fun c => if c then evE bw a env s1 else evE bw b env s1
  | .cmp o a b, env, st => (evE true a env st).bind fun (x, s1) => (evE true b env s1).bind fun (y, s2) => (cmpD o x y).map fun c => (.bl c, s2)
  | .chn o p a b c, env, st => (evE true a env st).bind fun (x, s1) => (evE true b env s1).bind fun (y, s2) => (cmpD o x y).bind fun k =>
      if k then (evE true c env s2).bind fun (z, s3) => (cmpD p y z).map fun c => (.bl c, s3) else some (.bl false, s2)
  | .call f as, env, st => (evEs false as env st).bind fun (xs, s1) => C.call f xs s1
  | .callK f as ks _ perm, env, st => (evEs false as env st).bind fun (xs, s1) => (evEs false ks env s1).bind fun (ys, s2) => (permD (xs ++ ys) perm).bind fun zs => C.call f zs s2
  | .callV f as, env, st => (evE true f env st).bind fun (g, s1) => (evEs false as env s1).bind fun (xs, s2) => match g with | .fn n => C.call n xs s2 | _ => none
  | .bi o as, env, st => (evEs true as env st).bind fun (xs, s1) => (biD o xs).map (·, s1)
  | .srtS a, env, st => (evE true a env st).bind fun (v, s1) => (biD .sortedSet [v]).map (·, s1)
  | .srtL a, env, st => (evE true a env st).bind fun (v, s1) => (biD .sortedLenRev [v]).map (·, s1)
  | .ix a i, env, st => (evE true a env st).bind fun (x, s1) => (evE true i env s1).bind fun (y, s2) => (ixD s2 x y).map (·, s2)
  | .slc a lo hi, env, st => (evE true a env st).bind fun (x, s1) => ((evE true lo env s1).bind fun (y, s) => (bndD lo y).map (·, s)).bind fun (y, s2) => ((evE true hi env s2).bind fun (z, s) => (bndD hi z).map (·, s)).bind fun (z, s3) => (slcD x y z).map (·, s3)
  | .tup as, env, st => (evEs false as env st).bind fun (xs, s1) => if xs.length ≤ LIM then some (.tup xs, s1) else none
  | .lst as, env, st => (evEs false as env st).bind fun (xs, s1) => if xs.length ≤ LIM then some (.lst xs, s1) else none
  | .lc own e tg it cs, env, st => (evE true it env st).bind fun (x, s1) => (seqD x).bind fun xs =>
      guardLen (lcGo (fun d => asgT tg d (wipeE env own)) (evC cs) (fun env st => one (evE false e env st)) xs s1)
  | .lc2 own vs1 e tg it cs tg1 it1 cs1, env, st => (evE true it env st).bind fun (x, s1) => (seqD x).bind fun xs =>
      guardLen (lcGo (fun d => asgT tg d (wipeE env own)) (evC cs)
        (fun env st => (evE false it1 env st).bind fun (x, s1) => (seqD x).bind fun xs =>
          lcGo (fun d => asgT tg1 d (wipeE env vs1)) (evC cs1) (fun env st => one (evE false e env st)) xs s1) xs s1)
  | .dc own k v tg it cs, env, st => (evE true it env st).bind fun (x, s1) => (seqD x).bind fun xs =>
      (dcGo (fun d => asgT tg d (wipeE env own)) (evC cs) (evE false k) (evE false v) xs s1 []).bind fun (kvs, s2) => if kvs.length < LIM then some (.dct kvs, s2) else none
  | .dsp .nil, _, st => some (.dct [], st)
  | .dsp as, env, st => (evKs as env st).map fun (kvs, s1) => (.ref s1.length, s1 ++ [kvs])
  | .get2 o k d, env, st => (evE true o env st).bind fun (x, s1) => (evE true k env s1).bind fun (y, s2) => (evE false d env s2).bind fun (z, s3) => match x with
      | .dct kvs => if isKeyTup y && kvs.all (fun p => isKeyTup p.1) then some ((look kvs y).getD z, s3) else none
      | _ => none
  | .rng1 a, env, st => (evE true a env st).bind fun (x, s1) => match x with
      | .int n => if -1000000 ≤ n ∧ n ≤ 1000000 then some (.lst ((List.range n.toNat).map fun (k : Nat) => D.int k), s1) else none
      | _ => none
  | .rng2 a b, env, st => (evE true a env st).bind fun (x, s1) => (evE true b env s1).bind fun (y, s2) => match x, y with
      | .int m, .int n => if (-1000000 ≤ m ∧ m ≤ 1000000) ∧ -1000000 ≤ n ∧ n ≤ 1000000 then some (.lst ((List.range (n - m).toNat).map fun (k : Nat) => D.int (m + k)), s2) else none
      | _, _ => none
  | .enm a, env, st => (evE bw a env st).bind fun (x, s1) => match x with
      | .tup xs | .lst xs | .wt xs => some (.lst (List.zipWith (fun (k : Nat) (x : D) => D.tup [.int k, x]) (List.range xs.length) xs), s1)
      | _ => none
  | .zip a b, env, st => (evE bw a env st).bind fun (x, s1) => (evE bw b env s1).bind fun (y, s2) => match x, y with
      | .tup xs, .tup ys => some (.lst (List.zipWith (fun x y => .tup [x, y]) xs ys), s2)
      | _, _ => none
  | _, _, _ => none
def evEs (bw : Bool) : T → Env → St → Option (List D × St)
  | .nil, _, st => some ([], st)
  | .cons a r, env, st => (evE bw a env st).bind fun (x, s1) => (evEs bw r env s1).bind fun (xs, s2) => some (x :: xs, s2)
  | _, _, _ => none
/-- tests, one after another -/
def evC : T → Env → St → Option (Bool × St)
  | .nil, _, st => some (true, st)
  | .cons a r, env, st => (evE true a env st).bind fun (x, s1) => (tru x).bind fun b => if b then evC r env s1 else some (false, s1)
  | _, _, _ => none
/-- text keys and values -/
def evKs : T → Env → St → Option (List (List Nat × D) × St)
  | .nil, _, st => some ([], st)
  | .cons (.pair (.cst (.str k)) v) r, env, st => (evE false v env st).bind fun (x, s1) => (evKs r env s1).bind fun (kvs, s2) => some ((k, x) :: kvs, s2)
  | _, _, _ => none
end

/-! ### statements -/
inductive Fl where
  | nx | rt (d : D) | bk | ct
def forGo (turn : D → Env → St → Option (Fl × Env × St)) : List D → Env → St → Option (Fl × Env × St)
  | [], env, st => some (.nx, env, st)
  | x :: xs, env, st => (turn x env st).bind fun (f, env1, st1) => match f with
      | .nx | .ct => forGo turn xs env1 st1
      | .bk => some (.nx, env1, st1)
      | .rt d => some (.rt d, env1, st1)
def whlGo (test : Env → St → Option (D × St)) (body : Env → St → Option (Fl × Env × St)) : Nat → Env → St → Option (Fl × Env × St)
  | 0, _, _ => none
  | n + 1, env, st => (test env st).bind fun (x, s1) => (tru x).bind fun b => if b then (body env s1).bind fun (f, env1, st1) => match f with
      | .nx | .ct => whlGo test body n env1 st1
      | .bk => some (.nx, env1, st1)
      | .rt d => some (.rt d, env1, st1)
    else some (.nx, env, s1)
def BIG : Nat := 1000000000
def ownable : D → Bool
  | .lst _ | .dct _ => true
  | _ => false
/-- the values of a par: the fresh ones are this def's own -/
def evP : T → Env → St → Option (List Sl × St)
  | .nil, _, st => some ([], st)
  | .cons (.frs e) r, env, st => (evE C false e env st).bind fun (x, s1) => if ownable x then (evP r env s1).bind fun (xs, s2) => some (.ow x :: xs, s2) else none
  | .cons a r, env, st => (evE C false a env st).bind fun (x, s1) => (evP r env s1).bind fun (xs, s2) => some (.sh x :: xs, s2)
  | _, _, _ => none
def setPs : T → List Sl → Env → Option Env
  | .nil, [], env => some env
  | .cons (.var i) r, x :: xs, env => (setV env i x).bind fun env' => setPs r xs env'
  | _, _, _ => none
mutual
def evS : T → Env → St → Option (Fl × Env × St)
  | .asg tg e, env, st => (evE C false e env st).bind fun (x, s1) => (asgT tg x env).map fun env' => (.nx, env', s1)
  | .asgO i e, env, st => (evE C false e env st).bind fun (x, s1) => if ownable x then (setV env i (.ow x)).map fun env' => (.nx, env', s1) else none
  | .asgM m k e, env, st => (evE C false e env st).bind fun (x, s1) => (evE C false m env s1).bind fun (r, s2) => (evE C true k env s2).bind fun (y, s3) => match r, y with
      | .ref n, .str k => (s3[n]?).bind fun o => if o.length < LIM then some (.nx, env, s3.set n (putS o k x)) else none
      | _, _ => none
  | .aug i o e, env, st => (slotV env[i]?).bind fun x => (evE C true e env st).bind fun (y, s1) => match x, y with
      | .int _, .int _ => (binD o x y).bind fun z => (setV env i (.sh z)).map fun env' => (.nx, env', s1)
      | _, _ => none
  | .app i e, env, st => (evE C false e env st).bind fun (x, s1) => match env[i]? with
      | some (.ow (.lst xs)) => if xs.length < LIM then some (.nx, env.set i (.ow (.lst (xs ++ [x]))), s1) else none
      | _ => none
  | .setI i k e, env, st => (evE C false e env st).bind fun (x, s1) => (evE C false k env s1).bind fun (y, s2) => match env[i]? with
      | some (.ow (.dct kvs)) => if isKeyTup y && kvs.all (fun p => isKeyTup p.1) && decide (kvs.length < LIM) then some (.nx, env.set i (.ow (.dct (put kvs y x))), s2) else none
      | _ => none
  | .par tgs is, env, st => (evP C is env st).bind fun (xs, s1) => (setPs tgs xs env).map fun env' => (.nx, env', s1)
  | .ret (.var i), env, st => (slotB env[i]?).map fun x => (.rt x, env, st)
  | .ret e, env, st => (evE C false e env st).bind fun (x, s1) => some (.rt x, env, s1)
  | .exp e, env, st => (evE C true e env st).map fun (_, s1) => (.nx, env, s1)
  | .ifs c a b, env, st => (evE C true c env st).bind fun (x, s1) => (tru x).bind fun t => if t then evSs a env s1 else evSs b env s1
  | .for_ tg it b, env, st => (evE C false it env st).bind fun (x, s1) => (seqD x).bind fun xs =>
      forGo (fun d env st => (asgT tg d env).bind fun env' => evSs b env' st) xs env s1
  | .whl c b, env, st => whlGo (evE C true c) (evSs b) BIG env st
  | .brk, env, st => some (.bk, env, st)
  | .cnt, env, st => some (.ct, env, st)
  | .pas, env, st => some (.nx, env, st)
  | .fz i, env, st => match env[i]? with
      | some (.ow d) => some (.nx, env.set i (.sh d), st)
      | _ => none
  | _, _, _ => none
def evSs : T → Env → St → Option (Fl × Env × St)
  | .nil, env, st => some (.nx, env, st)
  | .cons s r, env, st => (evS s env st).bind fun (f, env1, st1) => match f with
      | .nx => evSs r env1 st1
      | f => some (f, env1, st1)
  | _, _, _ => none
end
end

/-! ### defs -/
structure Fn where
  np : Nat
  ns : Nat
  body : T
structure Prog where
  consts : List D
  fns : List Fn
def startE (F : Fn) (xs : List D) : Env := xs.map .sh ++ List.replicate (F.ns - xs.length) .un
def runFn (P : Prog) (call : CallF) (F : Fn) (xs : List D) (st : St) : Option (D × St) :=
  if xs.length = F.np then (evSs ⟨P.consts, call⟩ F.body (startE F xs) st).bind fun (f, _, st') => match f with
    | .rt d => some (d, st')
    | .nx => some (.non, st')
    | _ => none
  else none
def callP (P : Prog) : Nat → CallF
  | 0, _, _, _ => none
  | d + 1, f, xs, st => (P.fns[f]?).bind fun F => runFn P (callP P d) F xs st
end Mini
end

section
set_option autoImplicit false
set_option Elab.async false
set_option linter.all false
set_option maxRecDepth 100000
set_option maxHeartbeats 1000000
/-! Snd1: the evaluator's values and the model's. -/
namespace Snd
open PySem PySem.Spec PyProof.Rows L2
open Mini (D Sl T)

/-- a text by its codes -/
def codes (x : Str) : List Nat := x.cps.toList
theorem codes_inj {x y : Str} (h : codes x = codes y) : x = y := PySem.W.str_of_cps h

/-- a key that is an int or a text -/
def keyA : D → Option Key
  | .int i => some (.inl i)
  | .str s => some (.inr ⟨s.toArray⟩)
  | _ => none
def keysA : List D → Option (List Key)
  | [] => some []
  | d :: r => (keyA d).bind fun k => (keysA r).map (k :: ·)
/-- a key that is a tuple of such -/
def keyT : D → Option (List Key)
  | .tup xs => keysA xs
  | _ => none

section
variable (K : PySem.W.Frag) (fad : Nat → Addr)
mutual
/-- v stands for d; lists and dicts in it avoid Bad; ρ: where the store's dicts stand -/
inductive Rep (H : Hp) (Bad : Addr → Prop) (ρ : List Addr) : D → V → Prop
  | non : Rep H Bad ρ .non .non
  | bl (b : Bool) : Rep H Bad ρ (.bl b) (.bl b)
  | int (i : Int) : Rep H Bad ρ (.int i) (.int i)
  | str (x : Str) : Rep H Bad ρ (.str (codes x)) (.str x)
  | tup {xs : List D} {a : Addr} {vs : List V} : H a = some (.tup vs) → RepL H Bad ρ xs vs → Rep H Bad ρ (.tup xs) (.ref a)
  | wt {xs : List D} {a : Addr} {vs : List V} : SqT K H a vs → RepL H Bad ρ xs vs → Rep H Bad ρ (.wt xs) (.ref a)
  | lst {xs : List D} {a : Addr} {vs : List V} : ¬ Bad a → Rd H a (.lst vs) → RepL H Bad ρ xs vs → Rep H Bad ρ (.lst xs) (.ref a)
  | dct {kvs : List (D × D)} {a : Addr} {ws : List (List Key × V)} : ¬ Bad a → H a = some (.dT ws) → RepK H Bad ρ kvs ws → Rep H Bad ρ (.dct kvs) (.ref a)
  | ref {n : Nat} {a : Addr} : ρ[n]? = some a → Rep H Bad ρ (.ref n) (.ref a)
  | fn (n : Nat) : Rep H Bad ρ (.fn n) (.ref (fad n))
inductive RepL (H : Hp) (Bad : Addr → Prop) (ρ : List Addr) : List D → List V → Prop
  | nil : RepL H Bad ρ [] []
  | cons {d : D} {v : V} {ds : List D} {vs : List V} : Rep H Bad ρ d v → RepL H Bad ρ ds vs → RepL H Bad ρ (d :: ds) (v :: vs)
inductive RepK (H : Hp) (Bad : Addr → Prop) (ρ : List Addr) : List (D × D) → List (List Key × V) → Prop
  | nil : RepK H Bad ρ [] []
  | cons {k d : D} {ks : List Key} {v : V} {r : List (D × D)} {w : List (List Key × V)} : keyT k = some ks → Rep H Bad ρ d v → RepK H Bad ρ r w → RepK H Bad ρ ((k, d) :: r) ((ks, v) :: w)
end
end

section
variable {K : PySem.W.Frag} {fad : Nat → Addr} {H H' : Hp} {Bad Bad' : Addr → Prop} {ρ ρ' : List Addr}

theorem RepL.length : ∀ {ds : List D} {vs : List V}, RepL K fad H Bad ρ ds vs → ds.length = vs.length
  | _, _, .nil => rfl
  | _, _, .cons _ t => by rw [List.length_cons, List.length_cons, t.length]
theorem RepK.length : ∀ {ds : List (D × D)} {vs : List (List Key × V)}, RepK K fad H Bad ρ ds vs → ds.length = vs.length
  | _, _, .nil => rfl
  | _, _, .cons _ _ t => by rw [List.length_cons, List.length_cons, t.length]
theorem RepL.append : ∀ {ds es : List D} {vs ws : List V}, RepL K fad H Bad ρ ds vs → RepL K fad H Bad ρ es ws → RepL K fad H Bad ρ (ds ++ es) (vs ++ ws)
  | _, _, _, _, .nil, s => s
  | _, _, _, _, .cons r t, s => .cons r (t.append s)
theorem RepL.get : ∀ {ds : List D} {vs : List V} {i : Nat} {d : D}, RepL K fad H Bad ρ ds vs → ds[i]? = some d → ∃ v, vs[i]? = some v ∧ Rep K fad H Bad ρ d v
  | _, _, _, _, .nil, e => by simp at e
  | _, _, 0, _, .cons r _, e => by simp at e; subst e; exact ⟨_, rfl, r⟩
  | _, _, i + 1, _, .cons _ t, e => by
    obtain ⟨v, h1, h2⟩ := t.get (i := i) (by simpa using e)
    exact ⟨v, by simpa using h1, h2⟩
theorem RepL.getV : ∀ {ds : List D} {vs : List V} {i : Nat} {v : V}, RepL K fad H Bad ρ ds vs → vs[i]? = some v → ∃ d, ds[i]? = some d ∧ Rep K fad H Bad ρ d v
  | _, _, _, _, .nil, e => by simp at e
  | _, _, 0, _, .cons r _, e => by simp at e; subst e; exact ⟨_, rfl, r⟩
  | _, _, i + 1, _, .cons _ t, e => by
    obtain ⟨v, h1, h2⟩ := t.getV (i := i) (by simpa using e)
    exact ⟨v, by simpa using h1, h2⟩
theorem RepL.drop : ∀ {ds : List D} {vs : List V} (n : Nat), RepL K fad H Bad ρ ds vs → RepL K fad H Bad ρ (ds.drop n) (vs.drop n)
  | _, _, 0, r => r
  | _, _, _ + 1, .nil => .nil
  | _, _, n + 1, .cons _ t => t.drop n
theorem RepL.take : ∀ {ds : List D} {vs : List V} (n : Nat), RepL K fad H Bad ρ ds vs → RepL K fad H Bad ρ (ds.take n) (vs.take n)
  | _, _, 0, _ => .nil
  | _, _, _ + 1, .nil => .nil
  | _, _, n + 1, .cons r t => .cons r (t.take n)
theorem RepL.mem : ∀ {ds : List D} {vs : List V} {d : D}, RepL K fad H Bad ρ ds vs → d ∈ ds → ∃ v ∈ vs, Rep K fad H Bad ρ d v
  | _, _, _, .nil, e => by simp at e
  | _, _, _, .cons r t, e => by
    rcases List.mem_cons.mp e with rfl | e
    · exact ⟨_, List.mem_cons_self, r⟩
    · obtain ⟨v, h1, h2⟩ := t.mem e
      exact ⟨v, List.mem_cons_of_mem _ h1, h2⟩

/-- what Rep leans on is kept -/
structure Gr (K : PySem.W.Frag) (Bad Bad' : Addr → Prop) (ρ ρ' : List Addr) (H H' : Hp) : Prop where
  tup : ∀ a xs, H a = some (.tup xs) → H' a = some (.tup xs)
  frz : ∀ a o u, H a = some (.frz o u) → H' a = some (.frz o u)
  keep : ∀ a o, H a = some o → ¬ Bad a → H' a = some o ∧ ¬ Bad' a
  pre : ∀ (n : Nat) (a : Addr), ρ[n]? = some a → ρ'[n]? = some a
theorem Gr.rd (g : Gr K Bad Bad' ρ ρ' H H') {a : Addr} {o : HO} (h : Rd H a o) (n : ¬ Bad a) : Rd H' a o ∧ ¬ Bad' a := by
  rcases h with h | ⟨u, h⟩
  · exact ⟨.inl (g.keep a _ h n).1, (g.keep a _ h n).2⟩
  · exact ⟨.inr ⟨u, (g.keep a _ h n).1⟩, (g.keep a _ h n).2⟩
theorem Gr.sqT (g : Gr K Bad Bad' ρ ρ' H H') {a : Addr} {xs : List V} (h : SqT K H a xs) : SqT K H' a xs := by
  rcases h with (h | ⟨u, h⟩) | h
  · exact .inl (.inl (g.tup a xs h))
  · exact .inl (.inr ⟨u, g.frz a _ _ h⟩)
  · exact .inr h
mutual
theorem Rep.gr (g : Gr K Bad Bad' ρ ρ' H H') : ∀ (d : D) (v : V), Rep K fad H Bad ρ d v → Rep K fad H' Bad' ρ' d v
  | .non, _, h => by cases h; exact .non
  | .bl _, _, h => by cases h; exact .bl _
  | .int _, _, h => by cases h; exact .int _
  | .str _, _, h => by cases h; exact .str _
  | .tup xs, _, h => by
    cases h with
    | tup h1 h2 => exact .tup (g.tup _ _ h1) (RepL.gr g xs _ h2)
  | .wt xs, _, h => by
    cases h with
    | wt h1 h2 => exact .wt (g.sqT h1) (RepL.gr g xs _ h2)
  | .lst xs, _, h => by
    cases h with
    | lst h0 h1 h2 => exact .lst (g.rd h1 h0).2 (g.rd h1 h0).1 (RepL.gr g xs _ h2)
  | .dct kvs, _, h => by
    cases h with
    | dct h0 h1 h2 => exact .dct (g.keep _ _ h1 h0).2 (g.keep _ _ h1 h0).1 (RepK.gr g kvs _ h2)
  | .set _, _, h => nomatch h
  | .ref _, _, h => by
    cases h with
    | ref h => exact .ref (g.pre _ _ h)
  | .fn _, _, h => by cases h; exact .fn _
theorem RepL.gr (g : Gr K Bad Bad' ρ ρ' H H') : ∀ (ds : List D) (vs : List V), RepL K fad H Bad ρ ds vs → RepL K fad H' Bad' ρ' ds vs
  | [], _, h => by cases h; exact .nil
  | d :: ds, _, h => by
    cases h with
    | cons h1 h2 => exact .cons (Rep.gr g d _ h1) (RepL.gr g ds _ h2)
theorem RepK.gr (g : Gr K Bad Bad' ρ ρ' H H') : ∀ (ds : List (D × D)) (vs : List (List Key × V)), RepK K fad H Bad ρ ds vs → RepK K fad H' Bad' ρ' ds vs
  | [], _, h => by cases h; exact .nil
  | (k, d) :: ds, _, h => by
    cases h with
    | cons h0 h1 h2 => exact .cons h0 (Rep.gr g d _ h1) (RepK.gr g ds _ h2)
end

/-! ### growth -/
/-- mutable kinds -/
def Mt : Option HO → Prop
  | some (.lst _) => True
  | some (.dK _) => True
  | some (.dT _) => True
  | _ => False
/-- from H to H': all is kept but the store's dicts; these may become more -/
structure Ext (ρ ρ' : List Addr) (H H' : Hp) : Prop where
  keep : ∀ a o, H a = some o → a ∉ ρ → H' a = some o
  pre : ∃ new, ρ' = ρ ++ new ∧ ∀ p ∈ new, H p = none
theorem Ext.refl : Ext ρ ρ H H := ⟨fun _ _ h _ => h, [], by simp, by simp⟩
theorem Ext.sub (e : Ext ρ ρ' H H') : ∀ a ∈ ρ, a ∈ ρ' := fun a h => by
  obtain ⟨new, rfl, _⟩ := e.pre
  exact List.mem_append_left _ h
theorem Ext.notin (e : Ext ρ ρ' H H') {a : Addr} {o : HO} (h : H a = some o) (n : a ∉ ρ) : a ∉ ρ' := by
  obtain ⟨new, rfl, f⟩ := e.pre
  intro q
  rcases List.mem_append.mp q with q | q
  · exact n q
  · rw [f a q] at h; cases h
theorem Ext.trans {ρ2 : List Addr} {H2 : Hp} (a : Ext ρ ρ' H H') (b : Ext ρ' ρ2 H' H2) (kept : ∀ p, H p ≠ none → H' p ≠ none) : Ext ρ ρ2 H H2 := by
  refine ⟨fun x o h n => b.keep x o (a.keep x o h n) (a.notin h n), ?_⟩
  obtain ⟨n1, e1, f1⟩ := a.pre
  obtain ⟨n2, e2, f2⟩ := b.pre
  refine ⟨n1 ++ n2, by rw [e2, e1, List.append_assoc], fun p hp => ?_⟩
  rcases List.mem_append.mp hp with hp | hp
  · exact f1 p hp
  · cases q : H p with
    | none => rfl
    | some o => exact absurd (f2 p hp) (kept p (by rw [q]; simp))
/-- the addresses to be avoided -/
abbrev Bd (Av : Addr → Prop) (ρ : List Addr) : Addr → Prop := fun a => Av a ∨ a ∈ ρ
end

section
variable (K : PySem.W.Frag) (fad : Nat → Addr)
inductive RepO (H : Hp) (Bad : Addr → Prop) (ρ : List Addr) : List (List Nat × D) → List (Key × V) → Prop
  | nil : RepO H Bad ρ [] []
  | cons {x : Str} {d : D} {v : V} {r : List (List Nat × D)} {w : List (Key × V)} : Rep K fad H Bad ρ d v → RepO H Bad ρ r w → RepO H Bad ρ ((codes x, d) :: r) ((.inr x, v) :: w)
/-- the store stands at ρ -/
structure SR (Av : Addr → Prop) (ρ : List Addr) (H : Hp) (st : Mini.St) : Prop where
  nd : ρ.Nodup
  len : ρ.length = st.length
  obj : ∀ (n : Nat) (a : Addr) (o : List (List Nat × D)), ρ[n]? = some a → st[n]? = some o → ∃ kvs, H a = some (.dK kvs) ∧ RepO K fad H (Bd Av ρ) ρ o kvs
  av : ∀ a, Av a → Mt (H a)
/-- a value that is looked at now: it may be what this def alone holds -/
inductive RepW (H : Hp) (Av : Addr → Prop) (ρ : List Addr) : D → V → Prop
  | of {d : D} {v : V} : Rep K fad H (Bd Av ρ) ρ d v → RepW H Av ρ d v
  | lst {xs : List D} {a : Addr} {vs : List V} : a ∉ ρ → H a = some (.lst vs) → RepL K fad H (Bd Av ρ) ρ xs vs → RepW H Av ρ (.lst xs) (.ref a)
  | dct {kvs : List (D × D)} {a : Addr} {ws : List (List Key × V)} : a ∉ ρ → H a = some (.dT ws) → RepK K fad H (Bd Av ρ) ρ kvs ws → RepW H Av ρ (.dct kvs) (.ref a)
inductive RepLW (H : Hp) (Av : Addr → Prop) (ρ : List Addr) : List D → List V → Prop
  | nil : RepLW H Av ρ [] []
  | cons {d : D} {v : V} {ds : List D} {vs : List V} : RepW K fad H Av ρ d v → RepLW H Av ρ ds vs → RepLW H Av ρ (d :: ds) (v :: vs)
/-- what an expression leans on: the slots, the store -/
structure EV (Av : Addr → Prop) (ρ : List Addr) (H : Hp) (env : Mini.Env) (σ : L2.St) (st : Mini.St) : Prop where
  sr : SR K fad Av ρ H st
  len : env.length = σ.length
  sh : ∀ (i : Nat) (d : D), env[i]? = some (.sh d) → ∃ v, σ[i]? = some (some v) ∧ Rep K fad H (Bd Av ρ) ρ d v
  ow : ∀ (i : Nat) (d : D), env[i]? = some (.ow d) → ∃ v, σ[i]? = some (some v) ∧ RepW K fad H Av ρ d v
end

section
variable {K : PySem.W.Frag} {fad : Nat → Addr} {H H' : Hp} {Av : Addr → Prop} {ρ ρ' : List Addr} {st st' : Mini.St} {env : Mini.Env} {σ : L2.St}

theorem SR.dK (s : SR K fad Av ρ H st) {a : Addr} (h : a ∈ ρ) : ∃ kvs, H a = some (.dK kvs) := by
  obtain ⟨n, hn⟩ := List.mem_iff_getElem?.mp h
  have hl : n < st.length := by rw [← s.len]; exact (List.getElem?_eq_some_iff.mp hn).1
  obtain ⟨kvs, e, _⟩ := s.obj n a st[n] hn (by simp [hl])
  exact ⟨kvs, e⟩
theorem Ext.gr (s : SR K fad Av ρ H st) (e : Ext ρ ρ' H H') : Gr K (Bd Av ρ) (Bd Av ρ') ρ ρ' H H' := by
  refine ⟨fun a xs h => ?_, fun a o u h => ?_, fun a o h n => ⟨e.keep a o h fun q => n (.inr q), fun q => ?_⟩, fun n a h => ?_⟩
  · refine e.keep a _ h fun q => ?_
    obtain ⟨kvs, ek⟩ := s.dK q
    rw [ek] at h; cases h
  · refine e.keep a _ h fun q => ?_
    obtain ⟨kvs, ek⟩ := s.dK q
    rw [ek] at h; cases h
  · rcases q with q | q
    · exact n (.inl q)
    · exact e.notin h (fun z => n (.inr z)) q
  · obtain ⟨new, rfl, _⟩ := e.pre
    rw [List.getElem?_append_left (List.getElem?_eq_some_iff.mp h).1]
    exact h
theorem Rep.ext {d : D} {v : V} (r : Rep K fad H (Bd Av ρ) ρ d v) (s : SR K fad Av ρ H st) (e : Ext ρ ρ' H H') : Rep K fad H' (Bd Av ρ') ρ' d v := Rep.gr (e.gr s) d v r
theorem RepL.ext {d : List D} {v : List V} (r : RepL K fad H (Bd Av ρ) ρ d v) (s : SR K fad Av ρ H st) (e : Ext ρ ρ' H H') : RepL K fad H' (Bd Av ρ') ρ' d v := RepL.gr (e.gr s) d v r
theorem RepK.ext {d : List (D × D)} {v : List (List Key × V)} (r : RepK K fad H (Bd Av ρ) ρ d v) (s : SR K fad Av ρ H st) (e : Ext ρ ρ' H H') : RepK K fad H' (Bd Av ρ') ρ' d v := RepK.gr (e.gr s) d v r
theorem RepW.ext {d : D} {v : V} (r : RepW K fad H Av ρ d v) (s : SR K fad Av ρ H st) (e : Ext ρ ρ' H H') : RepW K fad H' Av ρ' d v := by
  cases r with
  | of r => exact .of (r.ext s e)
  | lst h0 h1 h2 => exact .lst (e.notin h1 h0) (e.keep _ _ h1 h0) (h2.ext s e)
  | dct h0 h1 h2 => exact .dct (e.notin h1 h0) (e.keep _ _ h1 h0) (h2.ext s e)
theorem RepLW.ext : ∀ {d : List D} {v : List V}, RepLW K fad H Av ρ d v → SR K fad Av ρ H st → Ext ρ ρ' H H' → RepLW K fad H' Av ρ' d v
  | _, _, .nil, _, _ => .nil
  | _, _, .cons r t, s, e => .cons (r.ext s e) (t.ext s e)
theorem RepLW.of : ∀ {d : List D} {v : List V}, RepL K fad H (Bd Av ρ) ρ d v → RepLW K fad H Av ρ d v
  | _, _, .nil => .nil
  | _, _, .cons r t => .cons (.of r) (RepLW.of t)
/-- behind an expression: the slots are as they were -/
theorem EV.ext (v : EV K fad Av ρ H env σ st) (e : Ext ρ ρ' H H') (s' : SR K fad Av ρ' H' st') : EV K fad Av ρ' H' env σ st' :=
  ⟨s', v.len, fun i d h => let ⟨x, h1, h2⟩ := v.sh i d h; ⟨x, h1, h2.ext v.sr e⟩, fun i d h => let ⟨x, h1, h2⟩ := v.ow i d h; ⟨x, h1, h2.ext v.sr e⟩⟩
/-- kept is what is there -/
theorem SR.kept (s : SR K fad Av ρ H st) (e : Ext ρ ρ' H H') (s' : SR K fad Av ρ' H' st') : ∀ p, H p ≠ none → H' p ≠ none := fun p h q => by
  by_cases hp : p ∈ ρ
  · obtain ⟨kvs, ek⟩ := s'.dK (e.sub p hp)
    rw [ek] at q; cases q
  · cases o : H p with
    | none => exact h o
    | some u => rw [e.keep p u o hp] at q; cases q
theorem SR.trans {ρ2 : List Addr} {H2 : Hp} (s : SR K fad Av ρ H st) (s1 : SR K fad Av ρ' H' st') (a : Ext ρ ρ' H H') (b : Ext ρ' ρ2 H' H2) : Ext ρ ρ2 H H2 := a.trans b (s.kept a s1)
/-- a new object is laid: nothing else changes -/
theorem Ext.new {p : Addr} {o : HO} (h : H p = none) : Ext ρ ρ H (upd H p o) := ⟨fun a u e _ => by rw [upd_ne (ne_of_none e h)]; exact e, [], by simp, by simp⟩
theorem Mt.some {o : Option HO} (h : Mt o) : ∃ u, o = .some u := by
  cases o with
  | none => exact h.elim
  | some u => exact ⟨u, rfl⟩
theorem RepO.ext {d : List (List Nat × D)} {v : List (Key × V)} (r : RepO K fad H (Bd Av ρ) ρ d v) (s : SR K fad Av ρ H st) (e : Ext ρ ρ' H H') : RepO K fad H' (Bd Av ρ') ρ' d v := by
  induction r with
  | nil => exact .nil
  | cons r _ ih => exact .cons (r.ext s e) ih
theorem SR.new {p : Addr} {o : HO} (s : SR K fad Av ρ H st) (h : H p = none) : SR K fad Av ρ (upd H p o) st := by
  have e : Ext ρ ρ H (upd H p o) := Ext.new h
  refine ⟨s.nd, s.len, fun n a ob h1 h2 => ?_, fun a ha => ?_⟩
  · obtain ⟨kvs, ek, r⟩ := s.obj n a ob h1 h2
    exact ⟨kvs, by rw [upd_ne (ne_of_none ek h)]; exact ek, r.ext s e⟩
  · have := s.av a ha
    obtain ⟨u, hu⟩ := Mt.some this
    rw [upd_ne (ne_of_none hu h)]
    exact this
theorem SR.notBad (s : SR K fad Av ρ H st) {p : Addr} (h : H p = none) : ¬ Bd Av ρ p := fun q => by
  rcases q with q | q
  · obtain ⟨u, hu⟩ := Mt.some (s.av p q)
    rw [hu] at h; cases h
  · obtain ⟨kvs, ek⟩ := s.dK q
    rw [ek] at h; cases h
end
end Snd
end

section
set_option autoImplicit false
set_option Elab.async false
set_option linter.all false
set_option maxRecDepth 100000
set_option maxHeartbeats 1000000
/-! Snd2: operators by values. -/
namespace Snd
open PySem PySem.Spec PyProof.Rows L2
open Mini (D Sl T)
/-- nothing is changed -/
def Grow (H H' : Hp) : Prop := ∀ a o, H a = some o → H' a = some o
theorem Grow.refl {H : Hp} : Grow H H := fun _ _ h => h
theorem Grow.new {H : Hp} {p : Addr} {o : HO} (h : H p = none) : Grow H (upd H p o) := fun a u e => by rw [upd_ne (ne_of_none e h)]; exact e
theorem Grow.ext {H H' : Hp} {ρ : List Addr} (g : Grow H H') : Ext ρ ρ H H' := ⟨fun a o h _ => g a o h, [], by simp, by simp⟩
section
variable (K : PySem.W.Frag) (fad : Nat → Addr)
/-- a list or dict just made, at p; nothing else holds it -/
inductive Fre (H0 H : Hp) (Av : Addr → Prop) (ρ : List Addr) : D → V → Prop
  | lst {xs : List D} {p : Addr} {vs : List V} : H0 p = none → ¬ Bd Av ρ p → H p = some (.lst vs) → RepL K fad H (fun a => Bd Av ρ a ∨ a = p) ρ xs vs → Fre H0 H Av ρ (.lst xs) (.ref p)
  | dct {kvs : List (D × D)} {p : Addr} {ws : List (List Key × V)} : H0 p = none → ¬ Bd Av ρ p → H p = some (.dT ws) → RepK K fad H (fun a => Bd Av ρ a ∨ a = p) ρ kvs ws → Fre H0 H Av ρ (.dct kvs) (.ref p)
/-- what an operator gives: a new list or dict, or another value -/
def PostN (H0 H : Hp) (Av : Addr → Prop) (ρ : List Addr) (d : D) (v : V) : Prop := match d with
  | .lst xs => Fre K fad H0 H Av ρ (.lst xs) v
  | .dct kvs => Fre K fad H0 H Av ρ (.dct kvs) v
  | d => Rep K fad H (Bd Av ρ) ρ d v
/-- an operator's rule by the evaluator's values -/
def rV2 (f : D → D → Option D) : R2 := fun x y H Q => ∃ (Av : Addr → Prop) (ρ : List Addr) (st : Mini.St) (dx dy d : D), SR K fad Av ρ H st ∧ RepW K fad H Av ρ dx x ∧ RepW K fad H Av ρ dy y ∧ f dx dy = some d ∧
  ∀ v H', Grow H H' → SR K fad Av ρ H' st → PostN K fad H H' Av ρ d v → Q v H'
end
section
variable {K : PySem.W.Frag} {fad : Nat → Addr} {H H' H0 : Hp} {Av : Addr → Prop} {ρ ρ' : List Addr} {st st' : Mini.St}

theorem RepW.int_inv {i : Int} {x : V} (r : RepW K fad H Av ρ (.int i) x) : x = .int i := by
  cases r with
  | of r => cases r; rfl
theorem RepW.bl_inv {b : Bool} {x : V} (r : RepW K fad H Av ρ (.bl b) x) : x = .bl b := by
  cases r with
  | of r => cases r; rfl
theorem RepW.non_inv {x : V} (r : RepW K fad H Av ρ .non x) : x = .non := by
  cases r with
  | of r => cases r; rfl
theorem RepW.str_inv {s : List Nat} {x : V} (r : RepW K fad H Av ρ (.str s) x) : ∃ z : Str, x = .str z ∧ codes z = s := by
  cases r with
  | of r => cases r with
    | str z => exact ⟨z, rfl, rfl⟩
theorem RepW.tup_inv {xs : List D} {x : V} (r : RepW K fad H Av ρ (.tup xs) x) : ∃ a vs, x = .ref a ∧ H a = some (.tup vs) ∧ RepL K fad H (Bd Av ρ) ρ xs vs := by
  cases r with
  | of r => cases r with
    | tup h1 h2 => exact ⟨_, _, rfl, h1, h2⟩
theorem RepW.wt_inv {xs : List D} {x : V} (r : RepW K fad H Av ρ (.wt xs) x) : ∃ a vs, x = .ref a ∧ SqT K H a vs ∧ RepL K fad H (Bd Av ρ) ρ xs vs := by
  cases r with
  | of r => cases r with
    | wt h1 h2 => exact ⟨_, _, rfl, h1, h2⟩
theorem RepW.lst_inv {xs : List D} {x : V} (r : RepW K fad H Av ρ (.lst xs) x) : ∃ a vs, x = .ref a ∧ Rd H a (.lst vs) ∧ RepL K fad H (Bd Av ρ) ρ xs vs := by
  cases r with
  | of r => cases r with
    | lst h0 h1 h2 => exact ⟨_, _, rfl, h1, h2⟩
  | lst h0 h1 h2 => exact ⟨_, _, rfl, .inl h1, h2⟩
theorem RepW.dct_inv {xs : List (D × D)} {x : V} (r : RepW K fad H Av ρ (.dct xs) x) : ∃ a ws, x = .ref a ∧ H a = some (.dT ws) ∧ RepK K fad H (Bd Av ρ) ρ xs ws := by
  cases r with
  | of r => cases r with
    | dct h0 h1 h2 => exact ⟨_, _, rfl, h1, h2⟩
  | dct h0 h1 h2 => exact ⟨_, _, rfl, h1, h2⟩

theorem Gr.weak {Bad Bad' : Addr → Prop} (h : ∀ a, Bad' a → Bad a) : Gr K Bad Bad' ρ ρ H H := ⟨fun _ _ h => h, fun _ _ _ h => h, fun a o e n => ⟨e, fun q => n (h a q)⟩, fun _ _ h => h⟩
theorem Fre.rep {d : D} {v : V} (f : Fre K fad H0 H Av ρ d v) : Rep K fad H (Bd Av ρ) ρ d v := by
  cases f with
  | lst h0 h1 h2 h3 => exact .lst h1 (.inl h2) (RepL.gr (Gr.weak fun a q => .inl q) _ _ h3)
  | dct h0 h1 h2 h3 => exact .dct h1 h2 (RepK.gr (Gr.weak fun a q => .inl q) _ _ h3)
theorem PostN.rep {d : D} {v : V} (f : PostN K fad H0 H Av ρ d v) : Rep K fad H (Bd Av ρ) ρ d v := by
  cases d with
  | lst xs => exact Fre.rep f
  | dct xs => exact Fre.rep f
  | non => exact f
  | bl _ => exact f
  | int _ => exact f
  | str _ => exact f
  | tup _ => exact f
  | set _ => exact f
  | ref _ => exact f
  | fn _ => exact f
  | wt _ => exact f
/-- a new list of values that are there -/
theorem SR.grN (s : SR K fad Av ρ H st) {p : Addr} {o : HO} (h : H p = none) : Gr K (Bd Av ρ) (fun a => Bd Av ρ a ∨ a = p) ρ ρ H (upd H p o) := by
  have e : Ext ρ ρ H (upd H p o) := Ext.new h
  have g := e.gr s
  refine ⟨g.tup, g.frz, fun a u ea n => ⟨(g.keep a u ea n).1, fun q => ?_⟩, g.pre⟩
  rcases q with q | q
  · exact n q
  · exact (ne_of_none ea h) q
theorem SR.newL (s : SR K fad Av ρ H st) {p : Addr} {xs : List D} {vs : List V} (h : H p = none) (r : RepL K fad H (Bd Av ρ) ρ xs vs) : Fre K fad H (upd H p (.lst vs)) Av ρ (.lst xs) (.ref p) :=
  .lst h (s.notBad h) upd_same (RepL.gr (s.grN h) _ _ r)
theorem SR.newD (s : SR K fad Av ρ H st) {p : Addr} {xs : List (D × D)} {vs : List (List Key × V)} (h : H p = none) (r : RepK K fad H (Bd Av ρ) ρ xs vs) : Fre K fad H (upd H p (.dT vs)) Av ρ (.dct xs) (.ref p) :=
  .dct h (s.notBad h) upd_same (RepK.gr (s.grN h) _ _ r)
theorem SR.newT (s : SR K fad Av ρ H st) {p : Addr} {xs : List D} {vs : List V} (h : H p = none) (r : RepL K fad H (Bd Av ρ) ρ xs vs) : Rep K fad (upd H p (.tup vs)) (Bd Av ρ) ρ (.tup xs) (.ref p) :=
  .tup upd_same (r.ext s (Ext.new h))

variable {X : Cx} {pins : List (Addr × Obj)} {σ : L2.St} {s : Shared}
theorem Rd.lstM {l : Addr} {xs : List V} (I : Inv X pins σ H s) (hH : Rd H l (.lst xs)) : xs.length ≤ sizeLine ∧ ∃ (its : List Value) (n : Nat), Vals xs its ∧ xs.length = its.length ∧ s.heap.get? l = some { cls := .type "list", data := .seq its.toArray n } := by
  obtain ⟨z, its, n, r, e⟩ := hH.ok I.hok
  exact ⟨z, its, n, r, r.length, e⟩
def rCatR : R2 := fun x y H Q => ∃ l b xs zs, x = .ref l ∧ y = .ref b ∧ Rd H l (.lst xs) ∧ Rd H b (.lst zs) ∧ xs.length + zs.length ≤ sizeLine ∧ ∀ p, H p = none → Q (.ref p) (upd H p (.lst (xs ++ zs)))
theorem op_catR : OpR X (binaryOp .Add) rCatR := by
  intro pins s σ H x y v u Q I rx ry h
  obtain ⟨l, b, xs, zs, rfl, rfl, hH, hB, hz, q⟩ := h
  cases rx
  cases ry
  obtain ⟨z, its, n, r, hl, e⟩ := Rd.lstM I hH
  obtain ⟨z2, its2, n2, r2, hl2, e2⟩ := Rd.lstM I hB
  refine PySem.P.add_list e e2 ?_ (by rw [List.size_toArray, List.size_toArray]; omega)
  have ea : its.toArray ++ its2.toArray = (its ++ its2).toArray := by simp
  rw [ea]
  exact ⟨.ref _, _, I.lnew (t' := s.toks) (r.append r2) (by rw [List.length_append]; omega), rfl, q _ I.fresh⟩
theorem codes_append (x y : Str) : codes (x ++ y) = codes x ++ codes y := by
  show (x.cps ++ y.cps).toList = x.cps.toList ++ y.cps.toList
  simp
theorem codes_length (x : Str) : (codes x).length = x.length := by
  show x.cps.toList.length = x.cps.size
  simp
theorem lim_eq : Mini.LIM = sizeLine := rfl
theorem op_addV : OpR X (binaryOp .Add) (rV2 X.K fad (Mini.binD .add)) := by
  intro pins s σ H x y v u Q I rx ry h
  obtain ⟨Av, ρ, st, dx, dy, d, sr, wx, wy, e, q⟩ := h
  simp only [Mini.binD] at e
  unfold Mini.addD at e
  split at e <;> first | (cases e; done) | skip
  · cases e
    rw [wx.int_inv] at rx; rw [wy.int_inv] at ry
    exact op_add pins s σ H _ _ v u Q I rx ry ⟨_, _, rfl, rfl, q _ _ Grow.refl sr (.int _)⟩
  · split at e <;> cases e
    rename_i hz
    obtain ⟨z1, rfl, e1⟩ := wx.str_inv
    obtain ⟨z2, rfl, e2⟩ := wy.str_inv
    refine op_add_str pins s σ H _ _ v u Q I rx ry ⟨_, _, rfl, rfl, by rw [← e1, ← e2, codes_length, codes_length] at hz; exact hz, q _ _ Grow.refl sr ?_⟩
    show Rep _ _ _ _ _ _ _
    rw [← e1, ← e2, ← codes_append]
    exact .str _
  · split at e <;> cases e
    rename_i hz
    obtain ⟨a, vs, rfl, ha, ra⟩ := wx.tup_inv
    obtain ⟨b, ws, rfl, hb, rb⟩ := wy.tup_inv
    refine op_catA pins s σ H _ _ v u Q I rx ry ⟨a, b, vs, ws, rfl, rfl, .inl (.inl ha), .inl (.inl hb), by rw [← ra.length, ← rb.length]; exact hz, fun z => ?_, fun z1 z2 => ?_, fun z1 z2 p hp => ?_⟩
    · refine q _ _ Grow.refl sr ?_
      subst z
      cases ra
      exact .tup hb rb
    · refine q _ _ Grow.refl sr ?_
      subst z2
      cases rb
      rw [List.append_nil]
      exact .tup ha ra
    · exact q _ _ (Grow.new hp) (sr.new hp) (sr.newT hp (ra.append rb))
  · split at e <;> cases e
    rename_i hz
    obtain ⟨a, vs, rfl, ha, ra⟩ := wx.lst_inv
    obtain ⟨b, ws, rfl, hb, rb⟩ := wy.lst_inv
    refine op_catR pins s σ H _ _ v u Q I rx ry ⟨a, b, vs, ws, rfl, rfl, ha, hb, by rw [← ra.length, ← rb.length]; exact hz, fun p hp => ?_⟩
    exact q _ _ (Grow.new hp) (sr.new hp) (sr.newL hp (ra.append rb))
theorem op_subV : OpR X (binaryOp .Sub) (rV2 X.K fad (Mini.binD .sub)) := by
  intro pins s σ H x y v u Q I rx ry h
  obtain ⟨Av, ρ, st, dx, dy, d, sr, wx, wy, e, q⟩ := h
  simp only [Mini.binD] at e
  unfold Mini.subD at e
  split at e <;> first | (cases e; done) | skip
  cases e
  rw [wx.int_inv] at rx; rw [wy.int_inv] at ry
  exact op_sub pins s σ H _ _ v u Q I rx ry ⟨_, _, rfl, rfl, q _ _ Grow.refl sr (.int _)⟩
theorem op_fdivV : OpR X (binaryOp .FloorDiv) (rV2 X.K fad (Mini.binD .fdiv)) := by
  intro pins s σ H x y v u Q I rx ry h
  obtain ⟨Av, ρ, st, dx, dy, d, sr, wx, wy, e, q⟩ := h
  simp only [Mini.binD] at e
  unfold Mini.fdivD at e
  split at e <;> first | (cases e; done) | skip
  split at e <;> cases e
  rename_i hz
  rw [wx.int_inv] at rx; rw [wy.int_inv] at ry
  exact op_fdiv pins s σ H _ _ v u Q I rx ry ⟨_, _, rfl, rfl, hz, q _ _ Grow.refl sr (.int _)⟩
theorem op_modV : OpR X (binaryOp .Mod) (rV2 X.K fad (Mini.binD .mod)) := by
  intro pins s σ H x y v u Q I rx ry h
  obtain ⟨Av, ρ, st, dx, dy, d, sr, wx, wy, e, q⟩ := h
  simp only [Mini.binD] at e
  unfold Mini.modD at e
  split at e <;> first | (cases e; done) | skip
  split at e <;> cases e
  rename_i hz
  rw [wx.int_inv] at rx; rw [wy.int_inv] at ry
  exact op_mod pins s σ H _ _ v u Q I rx ry ⟨_, _, rfl, rfl, hz, q _ _ Grow.refl sr (.int _)⟩
theorem op_powV : OpR X (binaryOp .Pow) (rV2 X.K fad (Mini.binD .pow)) := by
  intro pins s σ H x y v u Q I rx ry h
  obtain ⟨Av, ρ, st, dx, dy, d, sr, wx, wy, e, q⟩ := h
  simp only [Mini.binD] at e
  unfold Mini.powD at e
  split at e <;> first | (cases e; done) | skip
  split at e <;> cases e
  rename_i hz
  rw [wx.int_inv] at rx; rw [wy.int_inv] at ry
  exact op_pow pins s σ H _ _ v u Q I rx ry ⟨_, _, rfl, rfl, hz, q _ _ Grow.refl sr (.int _)⟩
end
end Snd
end

section
set_option autoImplicit false
set_option Elab.async false
set_option linter.all false
set_option maxRecDepth 100000
set_option maxHeartbeats 1000000
/-! Snd3: plain values as the library's data; comparisons. -/
namespace Snd
open PySem PySem.Spec PyProof.Rows L2
open Mini (D Sl T)
mutual
def toPy : D → PyData
  | .non => .none
  | .bl b => .bool b
  | .int i => .int i
  | .str s => .str ⟨s.toArray⟩
  | .tup xs => .tuple (toPys xs)
  | .lst xs => .list (toPys xs)
  | .wt xs => .tuple (toPys xs)
  | _ => .none
def toPys : List D → List PyData
  | [] => []
  | x :: r => toPy x :: toPys r
end
theorem toPys_map : ∀ xs : List D, toPys xs = xs.map toPy
  | [] => by simp [toPys]
  | x :: r => by simp [toPys, toPys_map r]
theorem mk_codes (x : Str) : (⟨(codes x).toArray⟩ : Str) = x := by
  cases x with
  | mk c => simp [codes]
mutual
theorem toPy_plain : ∀ d : D, Mini.plain d = true → (toPy d).plain = true
  | .non, _ => by simp [toPy, PyData.plain]
  | .bl _, _ => by simp [toPy, PyData.plain]
  | .int _, _ => by simp [toPy, PyData.plain]
  | .str _, _ => by simp [toPy, PyData.plain]
  | .tup xs, h => by
    simp only [toPy, PyData.plain]
    exact toPys_plain xs (by simpa [Mini.plain] using h)
  | .lst xs, h => by
    simp only [toPy, PyData.plain]
    exact toPys_plain xs (by simpa [Mini.plain] using h)
  | .wt xs, h => by
    simp only [toPy, PyData.plain]
    exact toPys_plain xs (by simpa [Mini.plain] using h)
  | .dct _, h => by simp [Mini.plain] at h
  | .set _, h => by simp [Mini.plain] at h
  | .ref _, h => by simp [Mini.plain] at h
  | .fn _, h => by simp [Mini.plain] at h
theorem toPys_plain : ∀ ds : List D, Mini.plains ds = true → PyData.plainAll (toPys ds) = true
  | [], _ => by simp [toPys, PyData.plainAll]
  | d :: r, h => by
    simp only [Mini.plains, Bool.and_eq_true] at h
    simp [toPys, PyData.plainAll, toPy_plain d h.1, toPys_plain r h.2]
end
mutual
theorem toPy_depth : ∀ d : D, Mini.plain d = true → (toPy d).depth = Mini.depth d
  | .non, _ => by simp [toPy, PyData.depth, Mini.depth]
  | .bl _, _ => by simp [toPy, PyData.depth, Mini.depth]
  | .int _, _ => by simp [toPy, PyData.depth, Mini.depth]
  | .str _, _ => by simp [toPy, PyData.depth, Mini.depth]
  | .tup xs, h => by
    simp only [toPy, PyData.depth, Mini.depth]
    rw [toPys_depth xs (by simpa [Mini.plain] using h)]
  | .lst xs, h => by
    simp only [toPy, PyData.depth, Mini.depth]
    rw [toPys_depth xs (by simpa [Mini.plain] using h)]
  | .wt xs, h => by
    simp only [toPy, PyData.depth, Mini.depth]
    rw [toPys_depth xs (by simpa [Mini.plain] using h)]
  | .dct _, h => by simp [Mini.plain] at h
  | .set _, h => by simp [Mini.plain] at h
  | .ref _, h => by simp [Mini.plain] at h
  | .fn _, h => by simp [Mini.plain] at h
theorem toPys_depth : ∀ ds : List D, Mini.plains ds = true → PyData.depthAll (toPys ds) = Mini.depths ds
  | [], _ => by simp [toPys, PyData.depthAll, Mini.depths]
  | d :: r, h => by
    simp only [Mini.plains, Bool.and_eq_true] at h
    simp only [toPys, PyData.depthAll, Mini.depths]
    rw [toPy_depth d h.1, toPys_depth r h.2]
end
theorem str_beq (s t : List Nat) : ((⟨s.toArray⟩ : Str) == ⟨t.toArray⟩) = (s == t) := by
  rw [Bool.eq_iff_iff, beq_iff_eq, beq_iff_eq]
  constructor
  · intro h
    injection h with h
    simpa using congrArg Array.toList h
  · intro h; rw [h]
mutual
theorem toPy_eqv : ∀ a b : D, Mini.plain a = true → Mini.plain b = true → PyData.eqv (toPy a) (toPy b) = Mini.eqD a b
  | .non, b, _, hb => by cases b <;> first | (simp [Mini.plain] at hb; done) | simp [toPy, PyData.eqv, Mini.eqD]
  | .bl _, b, _, hb => by cases b <;> first | (simp [Mini.plain] at hb; done) | simp [toPy, PyData.eqv, Mini.eqD]
  | .int _, b, _, hb => by cases b <;> first | (simp [Mini.plain] at hb; done) | simp [toPy, PyData.eqv, Mini.eqD]
  | .str _, b, _, hb => by
    cases b with
    | str t => simp only [toPy, PyData.eqv, Mini.eqD]; exact str_beq _ _
    | _ => first | (simp [Mini.plain] at hb; done) | simp [toPy, PyData.eqv, Mini.eqD]
  | .tup xs, b, ha, hb => by
    cases b with
    | tup ys =>
      simp only [toPy, PyData.eqv, Mini.eqD]
      exact toPys_eqv xs ys (by simpa [Mini.plain] using ha) (by simpa [Mini.plain] using hb)
    | wt ys =>
      simp only [toPy, PyData.eqv, Mini.eqD]
      exact toPys_eqv xs ys (by simpa [Mini.plain] using ha) (by simpa [Mini.plain] using hb)
    | _ => first | (simp [Mini.plain] at hb; done) | simp [toPy, PyData.eqv, Mini.eqD]
  | .wt xs, b, ha, hb => by
    cases b with
    | tup ys =>
      simp only [toPy, PyData.eqv, Mini.eqD]
      exact toPys_eqv xs ys (by simpa [Mini.plain] using ha) (by simpa [Mini.plain] using hb)
    | wt ys =>
      simp only [toPy, PyData.eqv, Mini.eqD]
      exact toPys_eqv xs ys (by simpa [Mini.plain] using ha) (by simpa [Mini.plain] using hb)
    | _ => first | (simp [Mini.plain] at hb; done) | simp [toPy, PyData.eqv, Mini.eqD]
  | .lst xs, b, ha, hb => by
    cases b with
    | lst ys =>
      simp only [toPy, PyData.eqv, Mini.eqD]
      exact toPys_eqv xs ys (by simpa [Mini.plain] using ha) (by simpa [Mini.plain] using hb)
    | _ => first | (simp [Mini.plain] at hb; done) | simp [toPy, PyData.eqv, Mini.eqD]
  | .dct _, _, h, _ => by simp [Mini.plain] at h
  | .set _, _, h, _ => by simp [Mini.plain] at h
  | .ref _, _, h, _ => by simp [Mini.plain] at h
  | .fn _, _, h, _ => by simp [Mini.plain] at h
theorem toPys_eqv : ∀ a b : List D, Mini.plains a = true → Mini.plains b = true → PyData.eqvAll (toPys a) (toPys b) = Mini.eqDs a b
  | [], [], _, _ => by simp [toPys, PyData.eqvAll, Mini.eqDs]
  | [], _ :: _, _, _ => by simp [toPys, PyData.eqvAll, Mini.eqDs]
  | _ :: _, [], _, _ => by simp [toPys, PyData.eqvAll, Mini.eqDs]
  | x :: xs, y :: ys, ha, hb => by
    simp only [Mini.plains, Bool.and_eq_true] at ha hb
    simp only [toPys, PyData.eqvAll, Mini.eqDs]
    rw [toPy_eqv x y ha.1 hb.1, toPys_eqv xs ys ha.2 hb.2]
end
mutual
theorem toPy_alike : ∀ a b : D, Mini.plain a = true → Mini.plain b = true → PySem.W.alike (toPy a) (toPy b) = Mini.alike a b
  | .non, b, _, hb => by cases b <;> first | (simp [Mini.plain] at hb; done) | simp [toPy, PySem.W.alike, Mini.alike]
  | .bl _, b, _, hb => by cases b <;> first | (simp [Mini.plain] at hb; done) | simp [toPy, PySem.W.alike, Mini.alike]
  | .int _, b, _, hb => by cases b <;> first | (simp [Mini.plain] at hb; done) | simp [toPy, PySem.W.alike, Mini.alike]
  | .str _, b, _, hb => by cases b <;> first | (simp [Mini.plain] at hb; done) | simp [toPy, PySem.W.alike, Mini.alike]
  | .tup xs, b, ha, hb => by
    cases b with
    | tup ys =>
      simp only [toPy, PySem.W.alike, Mini.alike]
      exact toPys_alike xs ys (by simpa [Mini.plain] using ha) (by simpa [Mini.plain] using hb)
    | wt ys =>
      simp only [toPy, PySem.W.alike, Mini.alike]
      exact toPys_alike xs ys (by simpa [Mini.plain] using ha) (by simpa [Mini.plain] using hb)
    | _ => first | (simp [Mini.plain] at hb; done) | simp [toPy, PySem.W.alike, Mini.alike]
  | .wt xs, b, ha, hb => by
    cases b with
    | tup ys =>
      simp only [toPy, PySem.W.alike, Mini.alike]
      exact toPys_alike xs ys (by simpa [Mini.plain] using ha) (by simpa [Mini.plain] using hb)
    | wt ys =>
      simp only [toPy, PySem.W.alike, Mini.alike]
      exact toPys_alike xs ys (by simpa [Mini.plain] using ha) (by simpa [Mini.plain] using hb)
    | _ => first | (simp [Mini.plain] at hb; done) | simp [toPy, PySem.W.alike, Mini.alike]
  | .lst xs, b, ha, hb => by
    cases b with
    | lst ys =>
      simp only [toPy, PySem.W.alike, Mini.alike]
      exact toPys_alike xs ys (by simpa [Mini.plain] using ha) (by simpa [Mini.plain] using hb)
    | _ => first | (simp [Mini.plain] at hb; done) | simp [toPy, PySem.W.alike, Mini.alike]
  | .dct _, _, h, _ => by simp [Mini.plain] at h
  | .set _, _, h, _ => by simp [Mini.plain] at h
  | .ref _, _, h, _ => by simp [Mini.plain] at h
  | .fn _, _, h, _ => by simp [Mini.plain] at h
theorem toPys_alike : ∀ a b : List D, Mini.plains a = true → Mini.plains b = true → PySem.W.alikeAll (toPys a) (toPys b) = Mini.alikes a b
  | [], [], _, _ => by simp [toPys, PySem.W.alikeAll, Mini.alikes]
  | [], _ :: _, _, _ => by simp [toPys, PySem.W.alikeAll, Mini.alikes]
  | _ :: _, [], _, _ => by simp [toPys, PySem.W.alikeAll, Mini.alikes]
  | x :: xs, y :: ys, ha, hb => by
    simp only [Mini.plains, Bool.and_eq_true] at ha hb
    simp only [toPys, PySem.W.alikeAll, Mini.alikes]
    rw [toPy_alike x y ha.1 hb.1, toPys_alike xs ys ha.2 hb.2]
end
open PySem.W in
mutual
theorem toPy_lt : ∀ a b : D, Mini.plain a = true → Mini.plain b = true → Mini.alike a b = true → dataLt (toPy a) (toPy b) = Mini.ltD a b
  | .non, b, _, _, h => by
    cases b <;> simp [Mini.alike] at h
    simp only [toPy, Mini.ltD]
    rfl
  | .bl x, b, _, _, h => by
    cases b with
    | bl y =>
      simp only [toPy, Mini.ltD]
      rw [dataLt_bool]
      cases x <;> cases y <;> rfl
    | _ => simp [Mini.alike] at h
  | .int x, b, _, _, h => by
    cases b <;> simp [Mini.alike] at h
    simp only [toPy, Mini.ltD]
    rw [dataLt_int]
  | .str x, b, _, _, h => by
    cases b <;> simp [Mini.alike] at h
    simp only [toPy, Mini.ltD]
    rw [dataLt_str]
  | .tup xs, b, ha, hb, h => by
    cases b with
    | tup ys =>
      simp only [toPy, Mini.ltD]
      rw [dataLt_tuple]
      exact toPys_lt xs ys (by simpa [Mini.plain] using ha) (by simpa [Mini.plain] using hb) (by simpa [Mini.alike] using h)
    | wt ys =>
      simp only [toPy, Mini.ltD]
      rw [dataLt_tuple]
      exact toPys_lt xs ys (by simpa [Mini.plain] using ha) (by simpa [Mini.plain] using hb) (by simpa [Mini.alike] using h)
    | _ => simp [Mini.alike] at h
  | .wt xs, b, ha, hb, h => by
    cases b with
    | tup ys =>
      simp only [toPy, Mini.ltD]
      rw [dataLt_tuple]
      exact toPys_lt xs ys (by simpa [Mini.plain] using ha) (by simpa [Mini.plain] using hb) (by simpa [Mini.alike] using h)
    | wt ys =>
      simp only [toPy, Mini.ltD]
      rw [dataLt_tuple]
      exact toPys_lt xs ys (by simpa [Mini.plain] using ha) (by simpa [Mini.plain] using hb) (by simpa [Mini.alike] using h)
    | _ => simp [Mini.alike] at h
  | .lst xs, b, ha, hb, h => by
    cases b with
    | lst ys =>
      simp only [toPy, Mini.ltD]
      rw [dataLt_list]
      exact toPys_lt xs ys (by simpa [Mini.plain] using ha) (by simpa [Mini.plain] using hb) (by simpa [Mini.alike] using h)
    | _ => simp [Mini.alike] at h
  | .dct _, _, h, _, _ => by simp [Mini.plain] at h
  | .set _, _, h, _, _ => by simp [Mini.plain] at h
  | .ref _, _, h, _, _ => by simp [Mini.plain] at h
  | .fn _, _, h, _, _ => by simp [Mini.plain] at h
theorem toPys_lt : ∀ a b : List D, Mini.plains a = true → Mini.plains b = true → Mini.alikes a b = true → PyProof.Rows.lexLt itemOrd (keyToksAll (toPys a)) (keyToksAll (toPys b)) = Mini.ltDs a b
  | [], [], _, _, _ => by simp only [toPys, keyToksAll, Mini.ltDs]; exact lex_irrefl _
  | [], _ :: _, _, _, _ => by simp only [toPys, keyToksAll, Mini.ltDs]; rfl
  | _ :: _, [], _, _, _ => by simp only [toPys, keyToksAll, Mini.ltDs]; rfl
  | x :: xs, y :: ys, ha, hb, h => by
    simp only [Mini.plains, Bool.and_eq_true] at ha hb
    simp only [Mini.alikes, Bool.and_eq_true] at h
    simp only [toPys, Mini.ltDs]
    have e : PySem.W.alike (toPy x) (toPy y) = true := by rw [toPy_alike x y ha.1 hb.1]; exact h.1
    rw [dataLt_cons e, toPy_eqv x y ha.1 hb.1, toPys_lt xs ys ha.2 hb.2 h.2, toPy_lt x y ha.1 hb.1 h.1]
end

section
variable {fad : Nat → Addr} {H H' H0 : Hp} {Av Bad : Addr → Prop} {ρ ρ' : List Addr} {st st' : Mini.St} {X : Cx} {pins : List (Addr × Obj)} {σ : L2.St} {s : Shared}
mutual
theorem Rep.reads (I : Inv X pins σ H s) : ∀ (d : D) (v : V) (u : Value), Mini.plain d = true → Rep X.K fad H Bad ρ d v → RelV v u → ∃ as, Reads s.heap u (toPy d) as
  | .non, _, _, _, h, r => by cases h; cases r; exact ⟨_, .none⟩
  | .bl _, _, _, _, h, r => by cases h; cases r; exact ⟨_, .bool _⟩
  | .int _, _, _, _, h, r => by cases h; obtain ⟨t, rfl⟩ := r; exact ⟨_, .int _ t⟩
  | .str _, _, _, _, h, r => by
    cases h with
    | str x => obtain ⟨t, rfl⟩ := r; simp only [toPy]; rw [mk_codes]; exact ⟨_, .str _ t⟩
  | .tup xs, _, _, p, h, r => by
    cases h with
    | tup h1 h2 =>
      cases r
      obtain ⟨its, rv, ⟨o, ho, hc, n, hd⟩, _⟩ := I.tuple (.inl (.inl h1))
      obtain ⟨as, hr⟩ := RepL.reads I xs _ its (by simpa [Mini.plain] using p) h2 rv
      simp only [toPy]
      exact ⟨_, .tuple ho hc hd hr⟩
  | .wt xs, _, _, p, h, r => by
    cases h with
    | wt h1 h2 =>
      cases r
      obtain ⟨its, rv, ⟨o, ho, hc, n, hd⟩, _⟩ := I.tuple h1
      obtain ⟨as, hr⟩ := RepL.reads I xs _ its (by simpa [Mini.plain] using p) h2 rv
      simp only [toPy]
      exact ⟨_, .tuple ho hc hd hr⟩
  | .lst xs, _, _, p, h, r => by
    cases h with
    | lst h0 h1 h2 =>
      cases r
      obtain ⟨its, rv, ⟨o, n, ho, hc, _, hd⟩, _⟩ := I.list (.inl h1)
      obtain ⟨as, hr⟩ := RepL.reads I xs _ its (by simpa [Mini.plain] using p) h2 rv
      simp only [toPy]
      exact ⟨_, .list ho hc hd hr⟩
  | .dct _, _, _, p, _, _ => by simp [Mini.plain] at p
  | .set _, _, _, p, _, _ => by simp [Mini.plain] at p
  | .ref _, _, _, p, _, _ => by simp [Mini.plain] at p
  | .fn _, _, _, p, _, _ => by simp [Mini.plain] at p
theorem RepL.reads (I : Inv X pins σ H s) : ∀ (ds : List D) (vs : List V) (us : List Value), Mini.plains ds = true → RepL X.K fad H Bad ρ ds vs → Vals vs us → ∃ as, ReadsAll s.heap us (toPys ds) as
  | [], _, _, _, h, r => by cases h; cases r; exact ⟨_, .nil⟩
  | d :: ds, _, _, p, h, r => by
    simp only [Mini.plains, Bool.and_eq_true] at p
    cases h with
    | cons h1 h2 =>
      cases r with
      | cons r1 r2 =>
        obtain ⟨as, q1⟩ := Rep.reads I d _ _ p.1 h1 r1
        obtain ⟨bs, q2⟩ := RepL.reads I ds _ _ p.2 h2 r2
        simp only [toPys]
        exact ⟨_, .cons q1 q2⟩
end
theorem RepW.reads (I : Inv X pins σ H s) {d : D} {v : V} {u : Value} (p : Mini.plain d = true) (w : RepW X.K fad H Av ρ d v) (r : RelV v u) : ∃ as, Reads s.heap u (toPy d) as := by
  cases w with
  | of h => exact Rep.reads I d v u p h r
  | lst h0 h1 h2 =>
    cases r
    obtain ⟨its, rv, ⟨o, n, ho, hc, _, hd⟩, _⟩ := I.list (.inl (.inl h1))
    obtain ⟨as, hr⟩ := RepL.reads I _ _ its (by simpa [Mini.plain] using p) h2 rv
    simp only [toPy]
    exact ⟨_, .list ho hc hd hr⟩
  | dct _ _ _ => simp [Mini.plain] at p

/-- a comparison's rule -/
def rC2 (K : PySem.W.Frag) (fad : Nat → Addr) (f : D → D → Option Bool) : R2 := fun x y H Q => ∃ (Av : Addr → Prop) (ρ : List Addr) (st : Mini.St) (dx dy : D) (b : Bool), SR K fad Av ρ H st ∧ RepW K fad H Av ρ dx x ∧ RepW K fad H Av ρ dy y ∧ f dx dy = some b ∧ Q (.bl b) H
theorem ordable_of {a b : D} (h : Mini.ordable a b = true) : Mini.plain a = true ∧ Mini.plain b = true ∧ Mini.alike a b = true ∧ toPy a ≠ .none ∧ Mini.depth a ≤ 60 := by
  unfold Mini.ordable at h
  simp only [Bool.and_eq_true, decide_eq_true_eq] at h
  obtain ⟨⟨⟨⟨h1, h2⟩, h3⟩, h4⟩, h5⟩ := h
  refine ⟨h1, h2, h3, ?_, h5⟩
  cases a <;> first | (simp [Mini.isNon] at h4; done) | (simp [Mini.plain] at h1; done) | simp [toPy]
theorem room60 {A : Around} {a b : PyData} (hu : A.units + 64 < cLine) (h : a.depth ≤ 60) : A.units + min a.depth b.depth < cLine := by omega
theorem op_ltV (hu : X.A.units + 64 < cLine) : OpR X (compareOp .Lt) (rC2 X.K fad Mini.ltC) := by
  intro pins s σ H x y v u Q I rx ry ⟨Av, ρ, st, dx, dy, b, sr, wx, wy, e, q⟩
  unfold Mini.ltC at e
  split at e <;> cases e
  rename_i ho
  obtain ⟨h1, h2, h3, h4, h5⟩ := ordable_of ho
  obtain ⟨as, r1⟩ := wx.reads I h1 rx
  obtain ⟨bs, r2⟩ := wy.reads I h2 ry
  refine PySem.W.lt_data r1 r2 (by rw [toPy_alike _ _ h1 h2]; exact h3) h4 (room60 hu (by rw [toPy_depth _ h1]; exact h5)) ⟨.bl _, H, I, rfl, ?_⟩
  rw [toPy_lt _ _ h1 h2 h3]; exact q
theorem op_gtV (hu : X.A.units + 64 < cLine) : OpR X (compareOp .Gt) (rC2 X.K fad Mini.gtC) := by
  intro pins s σ H x y v u Q I rx ry ⟨Av, ρ, st, dx, dy, b, sr, wx, wy, e, q⟩
  unfold Mini.gtC at e
  split at e <;> cases e
  rename_i ho
  obtain ⟨h1, h2, h3, h4, h5⟩ := ordable_of ho
  obtain ⟨as, r1⟩ := wx.reads I h1 rx
  obtain ⟨bs, r2⟩ := wy.reads I h2 ry
  have ha : PySem.W.alike (toPy dx) (toPy dy) = true := by rw [toPy_alike _ _ h1 h2]; exact h3
  have hb : Mini.alike dy dx = true := by rw [← toPy_alike _ _ h2 h1, PySem.W.alike_comm]; exact ha
  refine PySem.W.gt_data r1 r2 ha h4 (room60 hu (by rw [toPy_depth _ h1]; exact h5)) ⟨.bl _, H, I, rfl, ?_⟩
  rw [toPy_lt _ _ h2 h1 hb]; exact q
theorem op_leV (hu : X.A.units + 64 < cLine) : OpR X (compareOp .LtE) (rC2 X.K fad Mini.leC) := by
  intro pins s σ H x y v u Q I rx ry ⟨Av, ρ, st, dx, dy, b, sr, wx, wy, e, q⟩
  unfold Mini.leC at e
  split at e <;> cases e
  rename_i ho
  obtain ⟨h1, h2, h3, h4, h5⟩ := ordable_of ho
  obtain ⟨as, r1⟩ := wx.reads I h1 rx
  obtain ⟨bs, r2⟩ := wy.reads I h2 ry
  have ha : PySem.W.alike (toPy dx) (toPy dy) = true := by rw [toPy_alike _ _ h1 h2]; exact h3
  have hb : Mini.alike dy dx = true := by rw [← toPy_alike _ _ h2 h1, PySem.W.alike_comm]; exact ha
  refine PySem.W.le_data r1 r2 ha h4 (room60 hu (by rw [toPy_depth _ h1]; exact h5)) ⟨.bl _, H, I, rfl, ?_⟩
  rw [toPy_lt _ _ h2 h1 hb]; exact q
theorem op_geV (hu : X.A.units + 64 < cLine) : OpR X (compareOp .GtE) (rC2 X.K fad Mini.geC) := by
  intro pins s σ H x y v u Q I rx ry ⟨Av, ρ, st, dx, dy, b, sr, wx, wy, e, q⟩
  unfold Mini.geC at e
  split at e <;> cases e
  rename_i ho
  obtain ⟨h1, h2, h3, h4, h5⟩ := ordable_of ho
  obtain ⟨as, r1⟩ := wx.reads I h1 rx
  obtain ⟨bs, r2⟩ := wy.reads I h2 ry
  have ha : PySem.W.alike (toPy dx) (toPy dy) = true := by rw [toPy_alike _ _ h1 h2]; exact h3
  refine PySem.W.ge_data r1 r2 ha h4 (room60 hu (by rw [toPy_depth _ h1]; exact h5)) ⟨.bl _, H, I, rfl, ?_⟩
  rw [toPy_lt _ _ h1 h2 h3]; exact q
theorem shallow_of {a : D} (h : Mini.shallow a = true) : Mini.plain a = true ∧ Mini.depth a ≤ 60 := by
  unfold Mini.shallow at h
  simpa only [Bool.and_eq_true, decide_eq_true_eq] using h
theorem eqC_of {dx dy : D} {b : Bool} (e : Mini.eqC dx dy = some b) : (Mini.plain dx = true ∧ Mini.depth dx ≤ 60) ∧ (Mini.plain dy = true ∧ Mini.depth dy ≤ 60) ∧ Mini.eqD dx dy = b := by
  unfold Mini.eqC at e
  split at e <;> cases e
  rename_i ho
  rw [Bool.and_eq_true] at ho
  exact ⟨shallow_of ho.1, shallow_of ho.2, rfl⟩
theorem op_eqV (hu : X.A.units + 64 < cLine) : OpR X (compareOp .Eq) (rC2 X.K fad Mini.eqC) := by
  intro pins s σ H x y v u Q I rx ry ⟨Av, ρ, st, dx, dy, b, sr, wx, wy, e, q⟩
  obtain ⟨⟨h1, h5⟩, ⟨h2, h6⟩, rfl⟩ := eqC_of e
  obtain ⟨as, r1⟩ := wx.reads I h1 rx
  obtain ⟨bs, r2⟩ := wy.reads I h2 ry
  refine SeqAt.eq_plain r1 r2 (toPy_plain _ h1) (toPy_plain _ h2) (room60 hu (by rw [toPy_depth _ h1]; exact h5)) ⟨.bl _, H, I, rfl, ?_⟩
  rw [toPy_eqv _ _ h1 h2]; exact q
theorem op_neV (hu : X.A.units + 64 < cLine) : OpR X (compareOp .NotEq) (rC2 X.K fad fun a b => (Mini.eqC a b).map (!·)) := by
  intro pins s σ H x y v u Q I rx ry ⟨Av, ρ, st, dx, dy, b, sr, wx, wy, e0, q⟩
  obtain ⟨c, e, e1⟩ := Option.map_eq_some_iff.mp e0
  subst e1
  obtain ⟨⟨h1, h5⟩, ⟨h2, h6⟩, rfl⟩ := eqC_of e
  obtain ⟨as, r1⟩ := wx.reads I h1 rx
  obtain ⟨bs, r2⟩ := wy.reads I h2 ry
  refine SeqAt.ne_plain r1 r2 (toPy_plain _ h1) (toPy_plain _ h2) (room60 hu (by rw [toPy_depth _ h1]; exact h5)) ⟨.bl _, H, I, rfl, ?_⟩
  rw [toPy_eqv _ _ h1 h2]; exact q
theorem RepW.non_iff {d : D} {x : V} (w : RepW X.K fad H Av ρ d x) : decide (x = .non) = Mini.isNon d := by
  cases w with
  | of w => cases w <;> simp [Mini.isNon]
  | lst _ _ _ => simp [Mini.isNon]
  | dct _ _ _ => simp [Mini.isNon]
theorem op_isV : OpR X (compareOp .Is) (rC2 X.K fad Mini.isC) := by
  intro pins s σ H x y v u Q I rx ry ⟨Av, ρ, st, dx, dy, b, sr, wx, wy, e, q⟩
  unfold Mini.isC at e
  split at e <;> cases e
  refine op_isN pins s σ H x y v u Q I rx ry ⟨wy.non_inv, ?_⟩
  rw [wx.non_iff]; exact q
theorem op_isnV : OpR X (compareOp .IsNot) (rC2 X.K fad fun a b => (Mini.isC a b).map (!·)) := by
  intro pins s σ H x y v u Q I rx ry ⟨Av, ρ, st, dx, dy, b, sr, wx, wy, e0, q⟩
  obtain ⟨c, e, e1⟩ := Option.map_eq_some_iff.mp e0
  subst e1
  unfold Mini.isC at e
  split at e <;> cases e
  refine op_notN pins s σ H x y v u Q I rx ry ⟨wy.non_inv, ?_⟩
  rw [wx.non_iff]; exact q
end
end Snd
end

section
set_option autoImplicit false
set_option Elab.async false
set_option linter.all false
set_option maxRecDepth 100000
set_option maxHeartbeats 1000000
/-! Snd4: products, membership, places, slices. -/
namespace Snd
open PySem PySem.Spec PyProof.Rows L2
open Mini (D Sl T)
section
variable {fad : Nat → Addr} {H H' H0 : Hp} {Av Bad : Addr → Prop} {ρ ρ' : List Addr} {st st' : Mini.St} {X : Cx} {pins : List (Addr × Obj)} {σ : L2.St} {s : Shared}
/-! ### products -/
def rRepR : R2 := fun x y H Q => ∃ l k xs, x = .ref l ∧ y = .int k ∧ Rd H l (.lst xs) ∧ -(2 ^ 63) ≤ k ∧ k < 2 ^ 63 ∧ xs.length * k.toNat ≤ sizeLine ∧
  ∀ p, H p = none → Q (.ref p) (upd H p (.lst (List.replicate k.toNat xs).flatten))
theorem op_repR : OpR X (binaryOp .Mult) rRepR := by
  intro pins s σ H x y v u Q I rx ry h
  obtain ⟨l, k, xs, rfl, rfl, hH, h1, h2, hz, q⟩ := h
  cases rx
  obtain ⟨t, rfl⟩ := ry
  obtain ⟨z, its, n, r, hl, e⟩ := Rd.lstM I hH
  have hlen : its.toArray.size * k.toNat ≤ sizeLine := by rw [List.size_toArray, ← hl]; exact hz
  have hcap : ¬ its.toArray.size * k.toNat > (2 ^ 63 - 1) / 8 := by
    have : (sizeLine : Nat) ≤ (2 ^ 63 - 1) / 8 := by decide
    omega
  have hfit : ¬ (!Builtin.List.listFitsIndex k) = true := by
    rw [fitsIndex_both h1 h2]
    exact Bool.false_ne_true
  have hlong : ¬ Builtin.List.listTooLong (its.toArray.size * k.toNat) = true := by
    rw [notLongL hlen]
    exact Bool.false_ne_true
  have hnew : List.foldl (fun x1 x2 => x1 ++ x2) #[] (List.replicate (if its.toArray.isEmpty = true then 0 else k.toNat) its.toArray) = (List.replicate k.toNat its).flatten.toArray := by
    have f0 : ∀ m : Nat, List.foldl (fun x1 x2 => x1 ++ x2) #[] (List.replicate m its.toArray) = (List.replicate m its).flatten.toArray := fun m => by
      have := foldl_rep its m []
      rw [List.nil_append] at this
      exact this
    rw [f0]
    cases its with
    | nil => simp
    | cons a r' => rw [if_neg (by simp)]
  refine wpAny_binaryOp_repeat_ref (T := "list") (U := "int") (by decide) ⟨_, e, rfl⟩ (fun s' => typeIs_int s' k t) noFill_list_mul F.fills_int_mul F.slot_int_rmul repeat_list F.slot_int_index.lookup
    (call_meets F.slot_int_rmul (typeIs_int s k t) F.entry_int_rmul (F.args_int_rmul_2 _ _) (int___rmul___int_list k t l its.toArray n)
      ⟨e, rfl, ⟨_, e, rfl⟩, call_meets F.slot_list_mul ⟨_, e, rfl⟩ F.entry_list_mul (F.args_list_mul_2 _ _) (AutoListH.list___mul___list_int_3 l its.toArray n k t hfit hcap hlong) ⟨e, ?_⟩⟩)
  rw [hnew]
  exact ⟨.ref _, _, I.lnew (t' := s.toks) (r.rep k.toNat) (by rw [PyProof.Rows.lm_len_rep_flat, Nat.mul_comm]; exact hz), rfl, q _ I.fresh⟩
theorem RepL.rep {K : PySem.W.Frag} {xs : List D} {vs : List V} (r : RepL K fad H Bad ρ xs vs) : ∀ n : Nat, RepL K fad H Bad ρ (List.replicate n xs).flatten (List.replicate n vs).flatten
  | 0 => .nil
  | n + 1 => by
    rw [List.replicate_succ, List.replicate_succ, List.flatten_cons, List.flatten_cons]
    exact r.append (RepL.rep r n)
theorem mulOk_of {i j : Int} (h : Mini.mulOk i j = true) : CMul i j := by
  unfold Mini.mulOk at h
  simp only [Bool.or_eq_true, Bool.and_eq_true, decide_eq_true_eq] at h
  exact h
theorem op_mulV : OpR X (binaryOp .Mult) (rV2 X.K fad (Mini.binD .mul)) := by
  intro pins s σ H x y v u Q I rx ry h
  obtain ⟨Av, ρ, st, dx, dy, d, sr, wx, wy, e, q⟩ := h
  simp only [Mini.binD] at e
  unfold Mini.mulD at e
  split at e <;> first | (cases e; done) | skip
  · split at e <;> cases e
    rename_i hz
    rw [wx.int_inv] at rx; rw [wy.int_inv] at ry
    exact op_mul pins s σ H _ _ v u Q I rx ry ⟨_, _, rfl, rfl, mulOk_of hz, q _ _ Grow.refl sr (.int _)⟩
  · split at e <;> cases e
    rename_i hz
    obtain ⟨a, vs, rfl, ha, ra⟩ := wx.lst_inv
    rw [wy.int_inv] at ry
    refine op_repR pins s σ H _ _ v u Q I rx ry ⟨a, _, vs, rfl, rfl, ha, by omega, by omega, by rw [← ra.length]; exact hz.2.2, fun p hp => ?_⟩
    exact q _ _ (Grow.new hp) (sr.new hp) (sr.newL hp (ra.rep _))
/-- all operators -/
def opOf : Mini.Bin → Operator
  | .add => .Add
  | .sub => .Sub
  | .mul => .Mult
  | .fdiv => .FloorDiv
  | .mod => .Mod
  | .pow => .Pow
theorem op_binV (o : Mini.Bin) : OpR X (binaryOp (opOf o)) (rV2 X.K fad (Mini.binD o)) := by
  cases o
  · exact op_addV
  · exact op_subV
  · exact op_mulV
  · exact op_fdivV
  · exact op_modV
  · exact op_powV

/-! ### keys -/
theorem keyA_rep {K : PySem.W.Frag} {d : D} {v : V} {k : Key} (h : keyA d = some k) (r : Rep K fad H Bad ρ d v) : v = kV k := by
  cases r <;> simp [keyA] at h
  · subst h; rfl
  · rename_i x
    subst h
    rw [mk_codes]; rfl
theorem keysA_rep {K : PySem.W.Frag} : ∀ {ds : List D} {vs : List V} {ks : List Key}, keysA ds = some ks → RepL K fad H Bad ρ ds vs → vs = ks.map kV
  | _, _, _, h, .nil => by simp [keysA] at h; subst h; rfl
  | _, _, _, h, .cons r t => by
    simp only [keysA, Option.bind_eq_some_iff, Option.map_eq_some_iff] at h
    obtain ⟨k, e1, ks, e2, rfl⟩ := h
    rw [List.map_cons, keyA_rep e1 r, keysA_rep e2 t]
theorem keyA_some {d : D} (h : Mini.isKeyAtom d = true) : ∃ k, keyA d = some k := by
  cases d <;> simp [Mini.isKeyAtom] at h
  · exact ⟨_, rfl⟩
  · exact ⟨_, rfl⟩
theorem keysA_some : ∀ {ds : List D}, ds.all Mini.isKeyAtom = true → ∃ ks, keysA ds = some ks
  | [], _ => ⟨_, rfl⟩
  | d :: r, h => by
    rw [List.all_cons, Bool.and_eq_true] at h
    obtain ⟨k, e⟩ := keyA_some h.1
    obtain ⟨ks, e2⟩ := keysA_some h.2
    exact ⟨k :: ks, by simp [keysA, e, e2]⟩
theorem keyT_some {d : D} (h : Mini.isKeyTup d = true) : ∃ ks, keyT d = some ks := by
  cases d <;> simp only [Mini.isKeyTup, Bool.false_eq_true] at h
  exact keysA_some h
theorem keyT_tup {d : D} {ks : List Key} (h : keyT d = some ks) : ∃ xs, d = .tup xs ∧ keysA xs = some ks := by
  cases d <;> simp [keyT] at h
  exact ⟨_, rfl, h⟩
theorem mkStr_inj {s t : List Nat} (h : (⟨s.toArray⟩ : Str) = ⟨t.toArray⟩) : s = t := by
  injection h with h
  simpa using congrArg Array.toList h
theorem keyA_eq {a b : D} {k l : Key} (ha : keyA a = some k) (hb : keyA b = some l) : Mini.eqD a b = decide (k = l) := by
  cases a <;> simp [keyA] at ha <;> cases b <;> simp [keyA] at hb <;> subst ha <;> subst hb
  · rename_i i j
    simp only [Mini.eqD]
    rw [key_ll]
  · simp [Mini.eqD]
  · simp [Mini.eqD]
  · rename_i x y
    simp only [Mini.eqD]
    rw [key_rr]
    by_cases e : x = y
    · subst e; simp
    · rw [decide_eq_false (fun z => e (mkStr_inj z))]
      simpa using e
theorem keysA_eq : ∀ {a b : List D} {k l : List Key}, keysA a = some k → keysA b = some l → Mini.eqDs a b = decide (k = l)
  | [], [], _, _, ha, hb => by simp [keysA] at ha hb; subst ha; subst hb; simp [Mini.eqDs]
  | [], _ :: _, _, _, ha, hb => by
    simp only [keysA, Option.bind_eq_some_iff, Option.map_eq_some_iff] at ha hb
    obtain ⟨k, e1, ks, e2, rfl⟩ := hb
    cases ha
    simp [Mini.eqDs]
  | _ :: _, [], _, _, ha, hb => by
    simp only [keysA, Option.bind_eq_some_iff, Option.map_eq_some_iff] at ha hb
    obtain ⟨k, e1, ks, e2, rfl⟩ := ha
    cases hb
    simp [Mini.eqDs]
  | x :: xs, y :: ys, _, _, ha, hb => by
    simp only [keysA, Option.bind_eq_some_iff, Option.map_eq_some_iff] at ha hb
    obtain ⟨k, e1, ks, e2, rfl⟩ := ha
    obtain ⟨l, f1, ls, f2, rfl⟩ := hb
    simp only [Mini.eqDs]
    rw [keyA_eq e1 f1, keysA_eq e2 f2, ← Bool.decide_and]
    exact decide_eq_decide.mpr (by rw [List.cons.injEq])
theorem keyT_eq {a b : D} {k l : List Key} (ha : keyT a = some k) (hb : keyT b = some l) : Mini.eqD a b = decide (k = l) := by
  obtain ⟨xs, rfl, e1⟩ := keyT_tup ha
  obtain ⟨ys, rfl, e2⟩ := keyT_tup hb
  simp only [Mini.eqD]
  exact keysA_eq e1 e2
/-- what a dict's look-up gives -/
theorem RepK.look {K : PySem.W.Frag} {k : D} {ks : List Key} (hk : keyT k = some ks) : ∀ {kvs : List (D × D)} {ws : List (List Key × V)}, RepK K fad H Bad ρ kvs ws →
    (Mini.look kvs k = none ∧ valV ws ks = none) ∨ ∃ d v, Mini.look kvs k = some d ∧ valV ws ks = some v ∧ Rep K fad H Bad ρ d v
  | _, _, .nil => .inl ⟨rfl, rfl⟩
  | _, _, .cons (k := k') (d := d) (ks := ks') (v := v) (r := r) (w := w) h1 h2 h3 => by
    have e : Mini.eqD k' k = decide (ks' = ks) := keyT_eq h1 hk
    by_cases q : ks' = ks
    · refine .inr ⟨d, v, ?_, valV_pos (p := (ks', v)) q, h2⟩
      simp [Mini.look, e, q]
    · have e2 : Mini.look ((k', d) :: r) k = Mini.look r k := by simp [Mini.look, e, q]
      rw [e2, valV_neg (p := (ks', v)) q]
      exact RepK.look hk h3
theorem look_any (kvs : List (D × D)) (k : D) : (kvs.any fun p => Mini.eqD p.1 k) = (Mini.look kvs k).isSome := by
  unfold Mini.look
  rw [Option.isSome_map]
  rw [Bool.eq_iff_iff, List.any_eq_true, List.find?_isSome]
theorem RepK.map {K : PySem.W.Frag} {k : D} {ks : List Key} {d : D} {v : V} (hk : keyT k = some ks) (hv : Rep K fad H Bad ρ d v) : ∀ {kvs : List (D × D)} {ws : List (List Key × V)}, RepK K fad H Bad ρ kvs ws →
    RepK K fad H Bad ρ (kvs.map fun p => if Mini.eqD p.1 k then (p.1, d) else p) (ws.map fun p => if p.1 = ks then (p.1, v) else p)
  | _, _, .nil => .nil
  | _, _, .cons (k := k') (d := d') (ks := ks') (v := v') (r := r) (w := w) h1 h2 h3 => by
    have e : Mini.eqD k' k = decide (ks' = ks) := keyT_eq h1 hk
    rw [List.map_cons, List.map_cons]
    simp only [e]
    by_cases q : ks' = ks
    · simp only [q, decide_true, if_true]
      rw [q] at h1
      exact .cons h1 hv (RepK.map hk hv h3)
    · simp only [q, decide_false, if_false, Bool.false_eq_true]
      exact .cons h1 h2 (RepK.map hk hv h3)
theorem RepK.append {K : PySem.W.Frag} : ∀ {a b : List (D × D)} {v w : List (List Key × V)}, RepK K fad H Bad ρ a v → RepK K fad H Bad ρ b w → RepK K fad H Bad ρ (a ++ b) (v ++ w)
  | _, _, _, _, .nil, s => s
  | _, _, _, _, .cons h1 h2 t, s => .cons h1 h2 (t.append s)
theorem RepK.put {K : PySem.W.Frag} {k : D} {ks : List Key} {d : D} {v : V} {kvs : List (D × D)} {ws : List (List Key × V)} (r : RepK K fad H Bad ρ kvs ws) (hk : keyT k = some ks) (hv : Rep K fad H Bad ρ d v) :
    RepK K fad H Bad ρ (Mini.put kvs k d) (putK ws ks v) := by
  unfold Mini.put L2.putK
  have e : (kvs.any fun p => Mini.eqD p.1 k) = (ws.any fun kv => decide (kv.1 = ks)) := by
    rw [look_any, valV_any]
    rcases r.look hk with ⟨a, b⟩ | ⟨_, _, a, b, _⟩ <;> rw [a, b] <;> rfl
  rw [e]
  split
  · exact RepK.map hk hv r
  · exact r.append (.cons hk hv .nil)
/-- a key's tuple, tracked -/
theorem RepW.key {K : PySem.W.Frag} {k : D} {v : V} (h : Mini.isKeyTup k = true) (w : RepW K fad H Av ρ k v) : ∃ ks b, keyT k = some ks ∧ v = .ref b ∧ H b = some (.tup (ks.map kV)) := by
  obtain ⟨ks, e⟩ := keyT_some h
  obtain ⟨xs, rfl, e2⟩ := keyT_tup e
  obtain ⟨a, vs, rfl, h1, h2⟩ := w.tup_inv
  rw [keysA_rep e2 h2] at h1
  exact ⟨ks, a, e, rfl, h1⟩

/-! ### membership -/
theorem anyD (xs : List D) (x : D) (hx : Mini.plain x = true) (h : Mini.plains xs = true) : ((toPys xs).any fun y => PyData.eqv y (toPy x)) = xs.any fun y => Mini.eqD y x := by
  induction xs with
  | nil => rfl
  | cons a r ih =>
    simp only [Mini.plains, Bool.and_eq_true] at h
    simp only [toPys, List.any_cons]
    rw [toPy_eqv a x h.1 hx, ih h.2]
theorem memRoom {A : Around} {x : D} {ds : List PyData} (hu : A.units + 64 < cLine) (h : Mini.shallow x = true) : A.units + 1 + min (PyData.depthAll ds) (toPy x).depth < cLine := by
  have := shallow_of h
  rw [toPy_depth _ this.1]
  omega
theorem op_memV (hu : X.A.units + 64 < cLine) : OpR X (compareOp .In) (rC2 X.K fad Mini.memD) := by
  intro pins s σ H x y v u Q I rx ry ⟨Av, ρ, st, dx, dy, b, sr, wx, wy, e, q⟩
  unfold Mini.memD at e
  split at e <;> first | (cases e; done) | skip
  all_goals (split at e <;> cases e; rename_i ho; rw [Bool.and_eq_true] at ho)
  · have hx := (shallow_of ho.1).1
    obtain ⟨as, r1⟩ := wx.reads I hx rx
    obtain ⟨bs, r2⟩ := wy.reads I (by simpa [Mini.plain] using ho.2) ry
    simp only [toPy] at r2
    exact SeqAt.in_tuple_data r2 r1 (toPys_plain _ ho.2) (toPy_plain _ hx) (memRoom hu ho.1) ⟨.bl _, H, I, rfl, by rw [anyD _ _ hx ho.2]; exact q⟩
  · have hx := (shallow_of ho.1).1
    obtain ⟨as, r1⟩ := wx.reads I hx rx
    obtain ⟨bs, r2⟩ := wy.reads I (by simpa [Mini.plain] using ho.2) ry
    simp only [toPy] at r2
    exact SeqAt.in_list_data r2 r1 (toPys_plain _ ho.2) (toPy_plain _ hx) (memRoom hu ho.1) ⟨.bl _, H, I, rfl, by rw [anyD _ _ hx ho.2]; exact q⟩
  · have hx := (shallow_of ho.1).1
    obtain ⟨as, r1⟩ := wx.reads I hx rx
    obtain ⟨bs, r2⟩ := wy.reads I (by simpa [Mini.plain] using ho.2) ry
    simp only [toPy] at r2
    exact SeqAt.in_tuple_data r2 r1 (toPys_plain _ ho.2) (toPy_plain _ hx) (memRoom hu ho.1) ⟨.bl _, H, I, rfl, by rw [anyD _ _ hx ho.2]; exact q⟩
  · obtain ⟨ks, kb, ek, rfl, hb⟩ := wx.key ho.1
    obtain ⟨a, ws, rfl, ha, ra⟩ := wy.dct_inv
    cases ry
    refine d_in (by omega) I (DGet.t (k := ks) ha hb) rx fun s3 I3 => ⟨.bl _, H, I3, rfl, ?_⟩
    rw [look_any] at q
    rcases ra.look ek with ⟨e1, e2⟩ | ⟨_, _, e1, e2, _⟩ <;> (rw [e1] at q; rw [e2]; exact q)
theorem op_nmemV (hu : X.A.units + 64 < cLine) : OpR X (compareOp .NotIn) (rC2 X.K fad fun a b => (Mini.memD a b).map (!·)) := by
  intro pins s σ H x y v u Q I rx ry ⟨Av, ρ, st, dx, dy, b, sr, wx, wy, e0, q⟩
  obtain ⟨c, e, e1⟩ := Option.map_eq_some_iff.mp e0
  subst e1
  unfold Mini.memD at e
  split at e <;> first | (cases e; done) | skip
  all_goals (split at e <;> cases e; rename_i ho; rw [Bool.and_eq_true] at ho)
  · have hx := (shallow_of ho.1).1
    obtain ⟨as, r1⟩ := wx.reads I hx rx
    obtain ⟨bs, r2⟩ := wy.reads I (by simpa [Mini.plain] using ho.2) ry
    simp only [toPy] at r2
    exact SeqAt.notIn_tuple_data r2 r1 (toPys_plain _ ho.2) (toPy_plain _ hx) (memRoom hu ho.1) ⟨.bl _, H, I, rfl, by rw [anyD _ _ hx ho.2]; exact q⟩
  · have hx := (shallow_of ho.1).1
    obtain ⟨as, r1⟩ := wx.reads I hx rx
    obtain ⟨bs, r2⟩ := wy.reads I (by simpa [Mini.plain] using ho.2) ry
    simp only [toPy] at r2
    exact SeqAt.notIn_list_data r2 r1 (toPys_plain _ ho.2) (toPy_plain _ hx) (memRoom hu ho.1) ⟨.bl _, H, I, rfl, by rw [anyD _ _ hx ho.2]; exact q⟩
  · have hx := (shallow_of ho.1).1
    obtain ⟨as, r1⟩ := wx.reads I hx rx
    obtain ⟨bs, r2⟩ := wy.reads I (by simpa [Mini.plain] using ho.2) ry
    simp only [toPy] at r2
    exact SeqAt.notIn_tuple_data r2 r1 (toPys_plain _ ho.2) (toPy_plain _ hx) (memRoom hu ho.1) ⟨.bl _, H, I, rfl, by rw [anyD _ _ hx ho.2]; exact q⟩
  · obtain ⟨ks, kb, ek, rfl, hb⟩ := wx.key ho.1
    obtain ⟨a, ws, rfl, ha, ra⟩ := wy.dct_inv
    cases ry
    refine d_notIn (by omega) I (DGet.t (k := ks) ha hb) rx fun s3 I3 => ⟨.bl _, H, I3, rfl, ?_⟩
    rw [look_any] at q
    rcases ra.look ek with ⟨e1, e2⟩ | ⟨_, _, e1, e2, _⟩ <;> (rw [e1] at q; rw [e2]; exact q)
/-- all comparisons -/
def cmOf : Mini.Cm → CmpOp
  | .lt => .Lt
  | .le => .LtE
  | .gt => .Gt
  | .ge => .GtE
  | .eq => .Eq
  | .ne => .NotEq
  | .is => .Is
  | .isn => .IsNot
  | .mem => .In
  | .nmem => .NotIn
theorem op_cmV (hu : X.A.units + 64 < cLine) (o : Mini.Cm) : OpR X (compareOp (cmOf o)) (rC2 X.K fad (Mini.cmpD o)) := by
  cases o
  · exact op_ltV hu
  · exact op_leV hu
  · exact op_gtV hu
  · exact op_geV hu
  · exact op_eqV hu
  · exact op_neV hu
  · exact op_isV
  · exact op_isnV
  · exact op_memV hu
  · exact op_nmemV hu

/-! ### places and slices -/
/-- the rule of a subscript -/
def rI2 (K : PySem.W.Frag) (fad : Nat → Addr) : R2 := fun x y H Q => ∃ (Av : Addr → Prop) (ρ : List Addr) (st : Mini.St) (dx dy d : D), SR K fad Av ρ H st ∧ RepW K fad H Av ρ dx x ∧ RepW K fad H Av ρ dy y ∧ Mini.ixD st dx dy = some d ∧
  ∀ v, Rep K fad H (Bd Av ρ) ρ d v → Q v H
theorem place_ix {n : Nat} {i : Int} {k : Nat} (h : Mini.place n i = some k) : ixN n i = some k := by
  unfold Mini.place at h
  unfold L2.ixN
  by_cases h0 : 0 ≤ i
  · rw [if_pos h0] at h ⊢
    split at h
    · rename_i h1
      rw [if_pos (by omega)]; exact h
    · cases h
  · rw [if_neg h0] at h ⊢
    split at h
    · rename_i h1
      rw [if_pos (by omega)]; exact h
    · cases h
theorem at_of {K : PySem.W.Frag} {xs : List D} {vs : List V} {i : Int} {d : D} (r : RepL K fad H Bad ρ xs vs) (e : ((Mini.place xs.length i).bind fun k => xs[k]?) = some d) : ∃ v, atI vs i = some v ∧ Rep K fad H Bad ρ d v := by
  obtain ⟨k, e1, e2⟩ := Option.bind_eq_some_iff.mp e
  obtain ⟨v, e3, rv⟩ := r.get e2
  refine ⟨v, ?_, rv⟩
  unfold L2.atI
  rw [← r.length, place_ix e1]
  exact e3
theorem RepO.look {K : PySem.W.Frag} {k : Str} : ∀ {o : List (List Nat × D)} {kvs : List (Key × V)} {d : D}, RepO K fad H Bad ρ o kvs → Mini.lookS o (codes k) = some d → ∃ v, valV kvs (.inr k) = some v ∧ Rep K fad H Bad ρ d v
  | _, _, _, .nil, h => by simp [Mini.lookS] at h
  | _, _, d, .cons (x := x) (d := d') (v := v) (r := r) (w := w) h1 h2, h => by
    by_cases q : x = k
    · subst q
      have e : d' = d := by simpa [Mini.lookS] using h
      subst e
      exact ⟨v, valV_pos (p := (Sum.inr x, v)) rfl, h1⟩
    · have nq : (codes x == codes k) = false := by
        rw [beq_eq_false_iff_ne]
        exact fun z => q (codes_inj z)
      have h' : Mini.lookS r (codes k) = some d := by simpa [Mini.lookS, nq] using h
      rw [valV_neg (p := ((Sum.inr x : Key), v)) (fun z => q (Sum.inr.inj z))]
      exact RepO.look h2 h'
theorem ix_dict (hu : X.A.units + 1 < cLine) : IxR X (fun x y H Q => ∃ a v, x = .ref a ∧ DGet H a y (some v) ∧ Q v H) := by
  intro value slice pins s σ H x y v u Q I rx ry h hs
  obtain ⟨a, w, rfl, g, q⟩ := h
  cases rx
  have hT := dict_typeIs I g
  unfold subscriptTail
  refine wpAny_bind ?_
  rw [getitemInPython_of_ne hT.not_modules]
  refine wpAny_bind (wpAny_specialOf hT PySem.F.slot_dict_getitem.lookup ?_)
  have fin : wpAny (model X.prog X.w) X.A (subscripted slice false (.ref a) u) (fun r s₃ => wpAny (model X.prog X.w) X.A (letTemporaryGo value (.ref a) r >>= fun _ => pure r) (EP X pins σ Q) X.xe s₃) X.xe s := by
    rw [hs]
    exact wpAny_operating (d_getItem hu I g ry fun w' s3 I3 rw' => wpAny_bind (wpAny_letTemporaryGo (wpAny_pure ⟨w, H, I3, rw', q⟩)))
  first
    | exact wpAny_pure (wpAny_bind fin)
    | exact wpAny_bind (wpAny_pure (wpAny_bind fin))
    | exact wpAny_bind fin
theorem ix_V (hu : X.A.units + 64 < cLine) : IxR X (rI2 X.K fad) := by
  intro value slice pins s σ H x y v u Q I rx ry ⟨Av, ρ, st, dx, dy, d, sr, wx, wy, e, q⟩ hs
  unfold Mini.ixD at e
  split at e <;> first | (cases e; done) | skip
  · obtain ⟨a, vs, rfl, ha, ra⟩ := wx.tup_inv
    obtain ⟨z, ez, rz⟩ := at_of ra e
    exact ix_tup value slice pins s σ H _ _ v u Q I rx ry ⟨a, vs, _, z, rfl, wy.int_inv, .inl (.inl ha), ez, q z rz⟩ hs
  · obtain ⟨a, vs, rfl, ha, ra⟩ := wx.lst_inv
    obtain ⟨z, ez, rz⟩ := at_of ra e
    exact ix_list value slice pins s σ H _ _ v u Q I rx ry ⟨a, vs, _, z, rfl, wy.int_inv, .inl ha, ez, q z rz⟩ hs
  · obtain ⟨a, vs, rfl, ha, ra⟩ := wx.wt_inv
    obtain ⟨z, ez, rz⟩ := at_of ra e
    exact ix_tup value slice pins s σ H _ _ v u Q I rx ry ⟨a, vs, _, z, rfl, wy.int_inv, ha, ez, q z rz⟩ hs
  · split at e <;> first | (cases e; done) | skip
    rename_i ho
    rw [Bool.and_eq_true] at ho
    obtain ⟨ks, kb, ek, rfl, hb⟩ := wy.key ho.1
    obtain ⟨a, ws, rfl, ha, ra⟩ := wx.dct_inv
    rcases ra.look ek with ⟨e1, e2⟩ | ⟨d', z, e1, e2, rz⟩
    · rw [e1] at e; cases e
    · rw [e1] at e; cases e
      refine ix_dict (by omega) value slice pins s σ H _ _ v u Q I rx ry ⟨a, z, rfl, ?_, q z rz⟩ hs
      rw [← e2]
      exact DGet.t ha hb
  · obtain ⟨o, e1, e2⟩ := Option.bind_eq_some_iff.mp e
    cases wx with
    | of wx =>
      cases wx with
      | ref hn =>
        obtain ⟨kvs, hk, ro⟩ := sr.obj _ _ _ hn e1
        obtain ⟨k, rfl, rfl⟩ := wy.str_inv
        obtain ⟨z, e3, rz⟩ := ro.look e2
        refine ix_dict (by omega) value slice pins s σ H _ _ v u Q I rx ry ⟨_, z, rfl, ?_, q z rz⟩ hs
        rw [← e3]
        exact DGet.k (k := .inr k) hk
/-- a bound of a slice, by values -/
def partOf : D → Option (Option Int)
  | .non => some none
  | .int i => some (some i)
  | _ => none
theorem clip_ix {n d : Nat} {x : D} {k : Nat} {o : Option Int} (h : Mini.clip n d x = some k) (ho : partOf x = some o) : HT.sIx n d o = k := by
  cases x <;> simp [Mini.clip, partOf] at h ho <;> subst ho
  · exact h
  · rename_i i
    show (if i < 0 then (i + (n : Int)).toNat else min i.toNat n) = k
    by_cases h0 : 0 ≤ i
    · rw [if_neg (by omega)]
      rw [if_pos h0] at h
      exact h
    · rw [if_pos (by omega)]
      rw [if_neg h0] at h
      exact h
theorem clip_part {n d : Nat} {x : D} {k : Nat} (h : Mini.clip n d x = some k) : ∃ o, partOf x = some o := by
  cases x <;> simp [Mini.clip] at h
  · exact ⟨_, rfl⟩
  · exact ⟨_, rfl⟩
theorem RepL.cut {K : PySem.W.Frag} {xs : List D} {vs : List V} (r : RepL K fad H Bad ρ xs vs) {lo hi : Option Int} {a b : Nat} (ha : HT.sIx xs.length 0 lo = a) (hb : HT.sIx xs.length xs.length hi = b) :
    RepL K fad H Bad ρ (Mini.cutL xs a b) (cutV vs lo hi) := by
  unfold Mini.cutL L2.cutV
  rw [← r.length, ha, hb]
  exact (r.drop a).take (b - a)
/-- the rule of a slice -/
def rS3 (K : PySem.W.Frag) (fad : Nat → Addr) : V → Option Int → Option Int → Hp → VK → Prop := fun x lo hi H Q => ∃ (Av : Addr → Prop) (ρ : List Addr) (st : Mini.St) (dx l h d : D), SR K fad Av ρ H st ∧ RepW K fad H Av ρ dx x ∧ partOf l = some lo ∧ partOf h = some hi ∧ Mini.slcD dx l h = some d ∧
  ∀ v H', Grow H H' → SR K fad Av ρ H' st → PostN K fad H H' Av ρ d v → Q v H'
theorem sl_V : SlR X (rS3 X.K fad) := by
  intro pins s σ H x v vl vu lo hi sl Q I rx hs pl pu ⟨Av, ρ, st, dx, l, h, d, sr, wx, el, eh, e, q⟩
  unfold Mini.slcD at e
  split at e <;> first | (cases e; done) | skip
  · simp only [Option.bind_eq_some_iff] at e
    obtain ⟨a, ea, b, eb, e⟩ := e
    cases e
    obtain ⟨p, vs, rfl, hp, rp⟩ := wx.tup_inv
    have xa := clip_ix ea el
    have xb := clip_ix eb eh
    have rc := rp.cut xa xb
    refine sl_tupA pins s σ H _ v vl vu lo hi sl Q I rx hs pl pu ⟨p, vs, rfl, .inl (.inl hp), fun z => ?_, fun z p' hp' => ?_⟩
    · refine q _ _ Grow.refl sr ?_
      rw [← rp.length, xa, xb] at z
      show Rep _ _ _ _ _ _ _
      unfold Mini.cutL
      rw [z.1, z.2, List.drop_zero, Nat.sub_zero, List.take_length]
      exact .tup hp rp
    · exact q _ _ (Grow.new hp') (sr.new hp') (sr.newT hp' rc)
  · simp only [Option.bind_eq_some_iff] at e
    obtain ⟨a, ea, b, eb, e⟩ := e
    cases e
    obtain ⟨p, vs, rfl, hp, rp⟩ := wx.lst_inv
    have rc := rp.cut (clip_ix ea el) (clip_ix eb eh)
    exact sl_list pins s σ H _ v vl vu lo hi sl Q I rx hs pl pu ⟨p, vs, rfl, .inl hp, fun p' hp' => q _ _ (Grow.new hp') (sr.new hp') (sr.newL hp' rc)⟩
end
end Snd
end

section
set_option autoImplicit false
set_option Elab.async false
set_option linter.all false
set_option maxRecDepth 100000
set_option maxHeartbeats 4000000
/-! SortX: sorted of tuples of any length, the empty one among them. -/
namespace SortX
open PySem PySem.Calls PyProof.Rows PySem.W PySem.SeqAt
section
variable {prog : Program} {w : World} {A : Around} {E : Value → Shared → Prop} {s : Shared}
theorem call_tuple_lt {Q : Value → Shared → Prop} {l b : Addr} {ol ob : Obj} {items items2 : Array Value} {n n2 : Nat} {e r : Nat → Bool} (h1 : s.heap.get? l = some ol) (c1 : ol.cls = .type "tuple") (d1 : ol.data = .seq items n)
    (h2 : s.heap.get? b = some ob) (c2 : ob.cls = .type "tuple") (d2 : ob.data = .seq items2 n2)
    (he : ∀ j (h1 : j < items.size) (h2 : j < items2.size), EqAt A.in1 s items[j] items2[j] (e j)) (hr : ∀ j (h1 : j < items.size) (h2 : j < items2.size), e j = false → RcLt A.in1 s items[j] items2[j] (r j))
    (h : Q (.bool (firstLt e r (decide (items.size < items2.size)) (List.range (min items.size items2.size)))) s) : wpAny (model prog w) A (call (.builtin "tuple.__lt__") [.ref l, .ref b]) Q E s := by
  obtain ⟨cls, dd, data, sl⟩ := ol
  obtain ⟨cls2, dd2, data2, sl2⟩ := ob
  simp only at c1 d1 c2 d2
  subst c1 d1 c2 d2
  exact call_meets F.slot_tuple_lt ⟨_, h1, rfl⟩ F.entry_tuple_lt (F.args_tuple_lt_2 _ _) (tuple_ltAt l b items items2 n n2 dd dd2 sl sl2 e r) ⟨h1, h2, he, hr, h⟩
theorem oneLt_any {f : Bool} {da db : PyData} {a b : Value} {as bs : List Addr} {Q : Bool → Shared → Prop} (ra : Reads s.heap a da as) (rb : Reads s.heap b db bs) (h : alike da db = true) (hn : da ≠ .none)
    (hu : A.units + min da.depth db.depth < cLine) (hq : Q (dataLt da db) s) : wpAny (model prog w) A (oneLt' f a b) Q E s := by
  cases da with
  | tuple xs =>
    cases f with
    | false => exact oneLt_alike (fun z => by cases z) ra rb h hn hu hq
    | true =>
      cases db with
      | tuple ys =>
        have hal : alikeAll xs ys = true := by simpa [alike] using h
        cases ra with
        | @tuple l o vs n _ as₁ h1 h2 h3 h4 =>
          cases rb with
          | @tuple l' o' vs' n' _ bs₁ k1 k2 k3 k4 =>
            have n1 : vs.size = xs.length := by simpa using ReadsAll.length _ _ _ h4
            have n2 : vs'.size = ys.length := by simpa using ReadsAll.length _ _ _ k4
            rw [dataLt_tuple, ← firstLt_toks xs ys hal, ← n1, ← n2] at hq
            rw [oneLt'_eq]
            simp only [if_true]
            refine wpAny_bind (wpAny_cRoomFor (room_here hu) ?_)
            refine wpAny_bind (wpAny_callSpecialIfBound?_slot (T := "tuple") ⟨_, h1, h2⟩ F.slot_tuple_lt (call_tuple_lt (e := pairEq xs ys) (r := fun j => dataLt (xs.getD j .none) (ys.getD j .none)) h1 h2 h3 k1 k2 k3 (fun j j1 j2 => ?_) (fun j j1 j2 hj => ?_) ?_))
            · have := eqAt_alikeAll xs ys A.in1 s vs.toList vs'.toList _ _ h4 k4 hal (room_in hu) j (by simpa using j1) (by simpa using j2)
              simpa using this
            · have := rcLt_alikeAll xs ys A.in1 s vs.toList vs'.toList _ _ h4 k4 hal (room_in hu) j (by simpa using j1) (by simpa using j2) hj
              simpa using this
            · exact wpAny_truthy_bool hq
      | _ => exact absurd h (by simp [alike])
  | none => exact absurd rfl hn
  | bool x => exact oneLt_alike (fun _ t z => by cases z) ra rb h hn hu hq
  | int x => exact oneLt_alike (fun _ t z => by cases z) ra rb h hn hu hq
  | str x => exact oneLt_alike (fun _ t z => by cases z) ra rb h hn hu hq
  | list x => exact oneLt_alike (fun _ t z => by cases z) ra rb h hn hu hq
  | dict x => exact absurd h (by cases db <;> simp [alike])
def isNil : PyData → Bool
  | .tuple [] => true
  | _ => false
theorem isNil_iff {d : PyData} : isNil d = true ↔ d = .tuple [] := by
  cases d with
  | tuple xs => cases xs <;> simp [isNil]
  | _ => simp [isNil]
/-- the first items of tuples -/
theorem firsts_of {M : Model} : ∀ {vs : List Value} {ds : List PyData} {Q : List (Option Value) → Shared → Prop}, EachIs (fun v d => ∃ as, Reads s.heap v d as) vs ds → (∀ d, d ∈ ds → ∃ xs, d = .tuple xs) →
    (∀ fs : List (Option Value), fs.length = ds.length → (∀ (i : Nat) (d : PyData), ds[i]? = some d → ∃ o, fs[i]? = some o ∧ (o.isSome = true ↔ ∃ x r, d = .tuple (x :: r))) → Q fs s) → wpAny M A (vs.mapM firstOfTuple') Q E s
  | _, _, Q, .nil, _, h => by
    rw [List.mapM_nil]
    exact wpAny_pure (h [] rfl fun i d e => by simp at e)
  | v :: vs, d :: ds, Q, .cons ⟨as, r⟩ t, ht, h => by
    obtain ⟨xs, rfl⟩ := ht d (List.mem_cons_self ..)
    cases r with
    | @tuple a o its n _ _ ho hc hd hr =>
      rw [List.mapM_cons]
      refine wpAny_bind ?_
      rw [kas_first_eq]
      refine wpAny_bind (Looks.here (show Looks M s.heap (typeOf (.ref a)) o.cls from (Looks.ld ho).andThen .now) ?_)
      rw [hc, if_neg (by first | decide | simp)]
      refine wpAny_bind (listItems_at ho hd (wpAny_pure ?_))
      refine wpAny_bind (firsts_of t (fun d hd => ht d (List.mem_cons_of_mem _ hd)) fun fs hl hf => wpAny_pure (h _ ?_ ?_))
      · rw [List.length_cons, List.length_cons, hl]
      · intro i d e
        cases i with
        | zero =>
          have e' : PyData.tuple xs = d := by simpa using e
          subst e'
          refine ⟨its[0]?, by simp, ?_⟩
          have hl2 : its.toList.length = xs.length := ReadsAll.length _ _ _ hr
          rw [← Array.getElem?_toList]
          cases xs with
          | nil =>
            have : its.toList = [] := List.length_eq_zero_iff.mp (by simpa using hl2)
            rw [this]; simp
          | cons x r =>
            cases q : its.toList with
            | nil => rw [q] at hl2; simp at hl2
            | cons f fr => simp
        | succ i =>
          have e' : ds[i]? = some d := by simpa using e
          obtain ⟨o', h1, h2⟩ := hf i d e'
          exact ⟨o', by simpa using h1, h2⟩
theorem kind_of {M : Model} {vs : List Value} {d₀ : PyData} {ds : List PyData} {Q : SortKind → Shared → Prop} (e : EachIs (fun v d => ∃ as, Reads s.heap v d as) vs (d₀ :: ds)) (ht : ∀ d, d ∈ d₀ :: ds → ∃ xs, d = .tuple xs) (h0 : PyData.tuple [] ∈ d₀ :: ds)
    (h : Q (if isNil d₀ = true then oneType' else general') s) : wpAny M A (keyKind' vs.toArray) Q E s := by
  rw [keyKind'_eq, List.mapM_toArray, map_eq_pure_bind]
  refine wpAny_bind (wpAny_bind (firsts_of e ht fun fs hl hf => wpAny_pure ?_))
  have hall : ¬ (fs.toArray.all (·.isSome)) = true := by
    intro z
    rw [List.all_toArray, List.all_eq_true] at z
    obtain ⟨i, hi⟩ := List.mem_iff_getElem?.mp h0
    obtain ⟨o, ho, hs⟩ := hf i _ hi
    obtain ⟨x, r, q⟩ := hs.mp (z o (List.mem_of_getElem? ho))
    cases q
  rw [if_neg hall]
  obtain ⟨o, ho, hs⟩ := hf 0 d₀ rfl
  have hbind : (fs.toArray[0]?.bind id) = o := by
    rw [List.getElem?_toArray, ho]; rfl
  rw [hbind]
  by_cases hd' : isNil d₀ = true
  · rw [if_pos hd'] at h
    have hd : d₀ = .tuple [] := isNil_iff.mp hd'
    have hn : ¬ o.isSome = true := fun z => by
      obtain ⟨x, r, q⟩ := hs.mp z
      rw [hd] at q; cases q
    rw [if_neg hn]
    rw [oneTypeOnly'_eq, List.mapM_toArray, map_eq_pure_bind]
    refine wpAny_bind (wpAny_bind (wpAny_bind (kas_mapM (r := Value.type "tuple") _ (fun v hv Q' hq => ?_) (wpAny_pure ?_))))
    · obtain ⟨d, hdm, as, r⟩ := e.left v hv
      obtain ⟨xs, rfl⟩ := ht d hdm
      exact (looks_reads r).here hq
    · have hlen : vs ≠ [] := by
        intro z
        subst z
        cases e
      obtain ⟨v₁, vr, rfl⟩ := List.exists_cons_of_ne_nil hlen
      have hall : ((List.map (fun _ => Value.type "tuple") (v₁ :: vr)).toArray.all fun x => x == Value.type "tuple") = true := by
        simp only [List.all_toArray, List.all_map, List.all_eq_true]
        intro _ _
        rfl
      have h0 : (List.map (fun _ => Value.type "tuple") (v₁ :: vr)).toArray[0]? = some (Value.type "tuple") := by simp
      rw [h0]
      simp only [hall, if_true]
      exact wpAny_pure (wpAny_pure h)
  · rw [if_neg hd'] at h
    have hd : ¬ d₀ = .tuple [] := fun z => hd' (isNil_iff.mpr z)
    have hy : o.isSome = true := hs.mpr (by
      obtain ⟨xs, q⟩ := ht d₀ (List.mem_cons_self ..)
      cases xs with
      | nil => exact absurd q hd
      | cons x r => exact ⟨x, r, q⟩)
    rw [if_pos hy]
    exact wpAny_pure h
/-- tuples of any lengths can be sorted -/
theorem sortsAt {vs : List Value} {ds : List PyData} (e : EachIs (fun v d => ∃ as, Reads s.heap v d as) vs ds) (hal : AllAlike ds) (ht : ∀ d, d ∈ ds → ∃ xs, d = .tuple xs) (hu : ∀ d, d ∈ ds → A.units + d.depth < cLine) : SortsAt prog w A s (dataKind s.heap ds) vs := by
  by_cases h0 : PyData.tuple [] ∈ ds
  · have room : ∀ {d d' : PyData}, d ∈ ds → A.units + min d.depth d'.depth < cLine := fun {d d'} hd => Nat.lt_of_le_of_lt (Nat.add_le_add_left (Nat.min_le_left _ _) _) (hu d hd)
    refine ⟨fun v hv => ?_, ?_⟩
    · obtain ⟨d, hd, as, r⟩ := e.left v hv
      exact ⟨_, dataKind_some hal hd r⟩
    · cases ds with
      | nil => simp at h0
      | cons d₀ ds =>
        refine ⟨if isNil d₀ = true then oneType' else general', ?_, fun h2 E Q hq => kind_of e ht h0 hq⟩
        intro E x y a b Q ha hb hq
        obtain ⟨d, as, hd, ra, rfl⟩ := dataKind_inv ha
        obtain ⟨d', as', hd', rb, rfl⟩ := dataKind_inv hb
        have hne : d ≠ .none := by
          obtain ⟨xs, rfl⟩ := ht d hd
          intro z; cases z
        split
        · rw [keyLt'_oneType]
          exact oneLt_any ra rb (hal d hd d' hd') hne (room hd) hq
        · show wpAny _ _ (oneLt' false x y) _ _ _
          exact oneLt_any ra rb (hal d hd d' hd') hne (room hd) hq
  · refine SortsAt.data e hal (.inl fun d hd => ?_) hu
    obtain ⟨xs, rfl⟩ := ht d hd
    cases xs with
    | nil => exact absurd hd h0
    | cons x r => exact ⟨x, r, rfl⟩
end
end SortX
end

section
set_option autoImplicit false
set_option Elab.async false
set_option linter.all false
set_option maxRecDepth 100000
set_option maxHeartbeats 1000000
/-! Snd5: what a value holds, collected; sorted. -/
namespace Snd
open PySem PySem.Spec PyProof.Rows L2
open Mini (D Sl T)

/-! ### sorting, in plain words -/
section
variable {α : Type} {le : α → α → Bool}
def insG (le : α → α → Bool) (x : α) : List α → List α
  | [] => [x]
  | y :: ys => if le x y = true then x :: y :: ys else y :: insG le x ys
def isortG (le : α → α → Bool) : List α → List α
  | [] => []
  | x :: xs => insG le x (isortG le xs)
theorem insG_mem {x a : α} : ∀ {l : List α}, a ∈ insG le x l ↔ a = x ∨ a ∈ l
  | [] => by simp [insG]
  | y :: ys => by
    unfold insG
    split
    · simp
    · rw [List.mem_cons, insG_mem, List.mem_cons]
      constructor
      · rintro (h | h | h)
        · exact .inr (.inl h)
        · exact .inl h
        · exact .inr (.inr h)
      · rintro (h | h | h)
        · exact .inr (.inl h)
        · exact .inl h
        · exact .inr (.inr h)
theorem isortG_mem {a : α} : ∀ {l : List α}, a ∈ isortG le l ↔ a ∈ l
  | [] => by simp [isortG]
  | x :: xs => by
    unfold isortG
    rw [insG_mem, isortG_mem, List.mem_cons]
theorem insG_length (x : α) : ∀ l : List α, (insG le x l).length = l.length + 1
  | [] => rfl
  | y :: ys => by
    unfold insG
    split
    · rfl
    · rw [List.length_cons, insG_length x ys, List.length_cons]
theorem isortG_length : ∀ l : List α, (isortG le l).length = l.length
  | [] => rfl
  | x :: xs => by
    unfold isortG
    rw [insG_length, isortG_length xs, List.length_cons]
open PySem.W in
theorem insG_sorted (h : TotalLe le) (x : α) : ∀ {l : List α}, l.Pairwise (fun a b => le a b = true) → (insG le x l).Pairwise (fun a b => le a b = true)
  | [], _ => by simp [insG]
  | y :: ys, p => by
    unfold insG
    have p' := List.pairwise_cons.mp p
    split
    · rename_i e
      refine List.pairwise_cons.mpr ⟨fun a ha => ?_, p⟩
      rcases List.mem_cons.mp ha with rfl | ha
      · exact e
      · exact h.trans _ _ _ e (p'.1 a ha)
    · rename_i e
      have e' : le y x = true := (h.total x y).elim (fun z => absurd z e) id
      refine List.pairwise_cons.mpr ⟨fun a ha => ?_, insG_sorted h x p'.2⟩
      rcases insG_mem.mp ha with rfl | ha
      · exact e'
      · exact p'.1 a ha
open PySem.W in
theorem isortG_sorted (h : TotalLe le) : ∀ l : List α, (isortG le l).Pairwise (fun a b => le a b = true)
  | [] => by simp [isortG]
  | x :: xs => insG_sorted h x (isortG_sorted h xs)
open PySem.W in
theorem insG_filter (h : TotalLe le) (c x : α) : ∀ l : List α, (insG le x l).filter (sameRank le c) = (x :: l).filter (sameRank le c)
  | [] => rfl
  | y :: ys => by
    unfold insG
    split
    · rfl
    · rename_i e
      rw [List.filter_cons, insG_filter h c x ys]
      by_cases hx : sameRank le c x = true
      · have hy : ¬ sameRank le c y = true := fun hy => by
          unfold sameRank at hx hy
          rw [Bool.and_eq_true] at hx hy
          exact e (h.trans _ _ _ hx.2 hy.1)
        rw [if_neg hy, List.filter_cons_of_pos hx, List.filter_cons_of_pos hx, List.filter_cons_of_neg hy]
      · rw [List.filter_cons_of_neg hx, List.filter_cons_of_neg hx, List.filter_cons]
open PySem.W in
theorem isortG_filter (h : TotalLe le) (c : α) : ∀ l : List α, (isortG le l).filter (sameRank le c) = l.filter (sameRank le c)
  | [] => rfl
  | x :: xs => by
    unfold isortG
    rw [insG_filter h, List.filter_cons, List.filter_cons, isortG_filter h c xs]
open PySem.W in
theorem isortG_eq (h : TotalLe le) (l : List α) : isortG le l = l.mergeSort le := sort_unique h (isortG_sorted h l) fun c => isortG_filter h c l
theorem insG_congr {le' : α → α → Bool} {x : α} : ∀ {l : List α}, (∀ b ∈ l, le x b = le' x b) → insG le x l = insG le' x l
  | [], _ => rfl
  | y :: ys, h => by
    unfold insG
    rw [h y (List.mem_cons_self ..), insG_congr fun b hb => h b (List.mem_cons_of_mem _ hb)]
theorem isortG_congr {le' : α → α → Bool} : ∀ {l : List α}, (∀ a ∈ l, ∀ b ∈ l, le a b = le' a b) → isortG le l = isortG le' l
  | [], _ => rfl
  | x :: xs, h => by
    unfold isortG
    rw [isortG_congr fun a ha b hb => h a (List.mem_cons_of_mem _ ha) b (List.mem_cons_of_mem _ hb)]
    exact insG_congr fun b hb => h x (List.mem_cons_self ..) b (List.mem_cons_of_mem _ (isortG_mem.mp hb))
end
theorem sortD_ins (x : D) : ∀ l : List D, Mini.sortD.insL x l = insG (fun a b => !Mini.ltD b a) x l
  | [] => rfl
  | y :: ys => by
    unfold Mini.sortD.insL insG
    rw [sortD_ins x ys]
    cases Mini.ltD y x <;> rfl
theorem sortD_is : ∀ l : List D, Mini.sortD l = isortG (fun a b => !Mini.ltD b a) l
  | [] => rfl
  | x :: xs => by
    unfold Mini.sortD isortG
    rw [sortD_ins, sortD_is xs]
theorem sortLenRev_ins (x : D) : ∀ l : List D, Mini.sortLenRev.insR x l = insG (fun a b => !decide ((Mini.lenD a).getD 0 < (Mini.lenD b).getD 0)) x l
  | [] => rfl
  | y :: ys => by
    unfold Mini.sortLenRev.insR insG
    rw [sortLenRev_ins x ys]
    by_cases h : (Mini.lenD x).getD 0 < (Mini.lenD y).getD 0
    · rw [if_pos h, decide_eq_true h]; rfl
    · rw [if_neg h, decide_eq_false h]; rfl
theorem sortLenRev_is : ∀ l : List D, Mini.sortLenRev l = isortG (fun a b => !decide ((Mini.lenD a).getD 0 < (Mini.lenD b).getD 0)) l
  | [] => rfl
  | x :: xs => by
    unfold Mini.sortLenRev isortG
    rw [sortLenRev_ins, sortLenRev_is xs]
theorem dataLe_total (rev : Bool) (k : D → PyData) : PySem.W.TotalLe (PySem.W.dataLe rev k) := PySem.W.sortLe_total _ _ _

/-! ### collected -/
section
variable {fad : Nat → Addr} {H H' H0 : Hp} {Av Bad : Addr → Prop} {ρ ρ' : List Addr} {st st' : Mini.St} {X : Cx} {pins : List (Addr × Obj)} {σ : L2.St} {s : Shared}
theorem keyA_repV {K : PySem.W.Frag} {d : D} {k : Key} (h : keyA d = some k) : Rep K fad H Bad ρ d (kV k) := by
  cases d <;> simp [keyA] at h
  · subst h; exact .int _
  · rename_i x
    subst h
    have := Rep.str (K := K) (fad := fad) (H := H) (Bad := Bad) (ρ := ρ) ⟨x.toArray⟩
    have e : codes ⟨x.toArray⟩ = x := by simp [codes]
    rw [e] at this
    exact this
theorem keysA_repV {K : PySem.W.Frag} : ∀ {ds : List D} {ks : List Key}, keysA ds = some ks → RepL K fad H Bad ρ ds (ks.map kV)
  | [], _, h => by simp [keysA] at h; subst h; exact .nil
  | d :: r, _, h => by
    simp only [keysA, Option.bind_eq_some_iff, Option.map_eq_some_iff] at h
    obtain ⟨k, e1, ks, e2, rfl⟩ := h
    exact .cons (keyA_repV e1) (keysA_repV e2)
theorem keysL {K : PySem.W.Frag} : ∀ {kvs : List (D × D)} {ws : List (List Key × V)} {bs : List Addr}, RepK K fad H Bad ρ kvs ws → IsKeys H ws bs → RepL K fad H Bad ρ (kvs.map (·.1)) (bs.map V.ref)
  | _, _, _, .nil, .nil => .nil
  | _, _, _, .cons h1 h2 h3, .cons p t => by
    rw [List.map_cons, List.map_cons]
    obtain ⟨xs, e, e2⟩ := keyT_tup h1
    refine .cons ?_ (keysL h3 t)
    rw [e]
    exact .tup p (keysA_repV e2)
/-- the items of a value, collected; nothing else changes -/
theorem collectV {A : Around} {E : Value → Shared → Prop} {d : D} {x : V} {u : Value} {xs : List D} {R : List Value → Shared → Prop} (hA : A.handled = none) (I : Inv X pins σ H s) (sr : SR X.K fad Av ρ H st) (w : RepW X.K fad H Av ρ d x) (r : RelV x u)
    (e : Mini.itemsD d = some xs) (hd : ∀ ys, d ≠ .set ys)
    (h : ∀ (h' : Heap) (tk : Nat) (us : List Value) (vs : List V), (∀ b o, s.heap.get? b = some o → h'.get? b = some o) → Vals vs us → vs.length ≤ sizeLine → RepL X.K fad H (Bd Av ρ) ρ xs vs → R us { s with heap := h', toks := tk }) :
    wpAny (model X.prog X.w) A (collect u) R E s := by
  unfold Mini.itemsD at e
  split at e <;> first | (cases e; done) | skip
  · cases e
    obtain ⟨a, vs, rfl, ha, ra⟩ := w.tup_inv
    cases r
    obtain ⟨its, rv, ⟨o, ho, hc, n, hdt⟩, hz⟩ := I.tuple (.inl (.inl ha))
    have hl := rv.length
    exact wpAny_collect_seq a (.inr rfl) ho hc hdt (fun h' k => h h' s.toks its vs k (by simpa using rv) hz ra) (by rw [List.size_toArray]; omega)
  · cases e
    obtain ⟨a, vs, rfl, ha, ra⟩ := w.lst_inv
    cases r
    obtain ⟨its, rv, ⟨o, n, ho, hc, _, hdt⟩, hz⟩ := I.list (.inl ha)
    have hl := rv.length
    exact wpAny_collect_seq a (.inl rfl) ho hc hdt (fun h' k => h h' s.toks its vs k (by simpa using rv) hz ra) (by rw [List.size_toArray]; omega)
  · cases e
    obtain ⟨a, vs, rfl, ha, ra⟩ := w.wt_inv
    cases r
    obtain ⟨its, rv, ⟨o, ho, hc, n, hdt⟩, hz⟩ := I.tuple ha
    have hl := rv.length
    exact wpAny_collect_seq a (.inr rfl) ho hc hdt (fun h' k => h h' s.toks its vs k (by simpa using rv) hz ra) (by rw [List.size_toArray]; omega)
  · cases e
    obtain ⟨a, ws, rfl, ha, ra⟩ := w.dct_inv
    cases r
    obtain ⟨z, hs, ks, pr, o, es, ep, ho, hx, hdt, he, hn⟩ := (show ObjOk X.prog X.w H s.heap a (.dT ws) from I.hok a _ ha)
    have l1 : es.size = ks.length := size_of_entries he
    have l2 : ws.length = ks.length := Paired.length pr
    refine PySem.W.kdu_collect (kdl_raw hs hx hdt) hA ho (by omega) fun h' tk acc' k it => ?_
    have ea : acc'.toList = ks.map fun x => Value.ref x.2.1 := by
      have hl : acc'.toList.length = ks.length := by rw [Array.length_toList, it.1]; exact l1
      apply List.ext_getElem?
      intro j
      rw [List.getElem?_map]
      cases hj : acc'.toList[j]? with
      | none =>
        have h1 := List.getElem?_eq_none_iff.mp hj
        rw [List.getElem?_eq_none (by omega)]
        all_goals rfl
      | some v =>
        obtain ⟨en, hen, hv⟩ := it.2 j v (by rw [← Array.getElem?_toList]; exact hj)
        have qe := entry_at he j
        rw [hen] at qe
        cases hb : ks[j]? with
        | none =>
          rw [hb] at qe
          exact nomatch (show some en = none from qe)
        | some b =>
          rw [hb] at qe
          have e2 : en = entryOfKey (tupleKind (mixKind X.prog X.w)) b := Option.some.inj qe
          rw [hv, e2]
          all_goals rfl
    have eb : acc'.toList = (ks.map fun x => x.2.1).map Value.ref := by rw [ea, List.map_map]; all_goals rfl
    have rv : Vals ((ks.map fun x => x.2.1).map V.ref) acc'.toList := by rw [eb]; exact vals_refs _
    exact h h' tk acc'.toList _ k rv (by rw [List.length_map, List.length_map]; omega) (keysL ra (isKeys_of pr))
  · exact absurd rfl (hd _)

/-! ### sorted -/
/-- a value with what it stands for -/
abbrev RD (X : Cx) (fad : Nat → Addr) (H : Hp) (Av : Addr → Prop) (ρ : List Addr) : Value → D → Prop := fun u d => ∃ x, RelV x u ∧ Rep X.K fad H (Bd Av ρ) ρ d x
theorem each_of : ∀ {ds : List D} {vs : List V} {us : List Value}, RepL X.K fad H (Bd Av ρ) ρ ds vs → Vals vs us → PySem.W.EachIs (RD X fad H Av ρ) us ds
  | _, _, _, .nil, .nil => .nil
  | _, _, _, .cons h t, .cons r s => .cons ⟨_, r, h⟩ (each_of t s)
theorem of_each : ∀ {ds : List D} {us : List Value}, PySem.W.EachIs (RD X fad H Av ρ) us ds → ∃ vs, Vals vs us ∧ RepL X.K fad H (Bd Av ρ) ρ ds vs
  | _, _, .nil => ⟨[], .nil, .nil⟩
  | _, _, .cons ⟨x, r, h⟩ t => by
    obtain ⟨vs, a, b⟩ := of_each t
    exact ⟨x :: vs, .cons r a, .cons h b⟩
theorem each_reads (I : Inv X pins σ H s) : ∀ {ds : List D} {us : List Value}, PySem.W.EachIs (RD X fad H Av ρ) us ds → (∀ d ∈ ds, Mini.plain d = true) → PySem.W.EachIs (fun v d => ∃ as, Reads s.heap v (toPy d) as) us ds
  | _, _, .nil, _ => .nil
  | _, _, .cons (b := d) ⟨x, r, h⟩ t, p => .cons (Rep.reads I d x _ (p _ (List.mem_cons_self ..)) h r) (each_reads I t fun d hd => p d (List.mem_cons_of_mem _ hd))
/-- sorted(v, ..), by what list.sort does to the list of its items -/
theorem sorted_of {A : Around} {d : D} {x : V} {u : Value} {xs : List D} {kw : List (Str × Value)} {Q : Value → Shared → Prop} {E : Value → Shared → Prop} (hA : A.handled = none) (I : Inv X pins σ H s) (sr : SR X.K fad Av ρ H st) (w : RepW X.K fad H Av ρ d x) (r : RelV x u)
    (e : Mini.itemsD d = some xs) (hd : ∀ ys, d ≠ .set ys) (ha : argsOk "sorted" ⟨[u], kw⟩)
    (h : ∀ (s1 : Shared) (us : List Value) (vs : List V), Inv X pins σ H s1 → (∃ h' tk, s1 = { s with heap := h', toks := tk }) → Vals vs us → us.length ≤ sizeLine → RepL X.K fad H (Bd Av ρ) ρ xs vs →
      wpAny (model X.prog X.w) A.in1 (call (.builtin "list.sort") [.ref s1.heap.objs.size] kw) (fun _ s2 => Q (.ref s1.heap.objs.size) s2) E { s1 with heap := s1.heap.push (seqObj "list" us.toArray 0) }) :
    wpAny (model X.prog X.w) A (call (.builtin "sorted") [u] kw) Q E s := by
  refine call_function_entry_kw kind_sorted plain_sorted entry_sorted ha ?_
  unfold Builtin.«sorted»
  refine wpAny_bind (m := checkCount "sorted" 1 1 _) (wpAny_pure ?_)
  refine wpAny_bind (collectV (A := A.in1) hA I sr w r e hd fun h' tk us vs k rv hz rl => ?_)
  have hl := rv.length
  refine wpAny_bind (wpAny_newList ?_ (by omega))
  have I1 : Inv X pins σ H { s with heap := h', toks := tk } := I.kept k
  refine wpAny_bind (wpAny_holding (thn (h _ us vs I1 ⟨h', tk, rfl⟩ rv (by omega) rl) fun _ s2 q => ?_))
  exact wpAny_pure ⟨_, rfl, q⟩
theorem plains_mem : ∀ {xs : List D}, Mini.plains xs = true ↔ ∀ d ∈ xs, Mini.plain d = true
  | [] => by simp [Mini.plains]
  | x :: r => by simp [Mini.plains, plains_mem (xs := r)]
theorem map_toPy_all {xs : List D} {P : PyData → Prop} (h : ∀ d ∈ xs, P (toPy d)) : ∀ p, p ∈ xs.map toPy → P p := fun p hp => by
  obtain ⟨d, hd, rfl⟩ := List.mem_map.mp hp
  exact h d hd
end
end Snd
end

section
set_option autoImplicit false
set_option Elab.async false
set_option linter.all false
set_option maxRecDepth 100000
set_option maxHeartbeats 1000000
/-! Snd6: sorted(v), sorted(v, key=len, reverse=True). -/
namespace Snd
open PySem PySem.Spec PyProof.Rows L2
open Mini (D Sl T)
section
variable {fad : Nat → Addr} {H H' H0 : Hp} {Av Bad : Addr → Prop} {ρ ρ' : List Addr} {st st' : Mini.St} {X : Cx} {pins : List (Addr × Obj)} {σ : L2.St} {s : Shared}
theorem intTup_of {d : D} (h : Mini.isIntTup d = true) : ∃ xs, d = .tup xs ∧ ∀ x ∈ xs, ∃ i, x = .int i := by
  cases d <;> simp only [Mini.isIntTup, Bool.false_eq_true] at h
  refine ⟨_, rfl, fun x hx => ?_⟩
  have := List.all_eq_true.mp h x hx
  cases x <;> simp only [Mini.isIntD, Bool.false_eq_true] at this
  exact ⟨_, rfl⟩
theorem ints_plain : ∀ {xs : List D}, (∀ x ∈ xs, ∃ i, x = .int i) → Mini.plains xs = true ∧ Mini.depths xs = 0
  | [], _ => ⟨by simp [Mini.plains], by simp [Mini.depths]⟩
  | x :: r, h => by
    obtain ⟨i, rfl⟩ := h x (List.mem_cons_self ..)
    obtain ⟨a, b⟩ := ints_plain (xs := r) fun y hy => h y (List.mem_cons_of_mem _ hy)
    exact ⟨by simp [Mini.plains, Mini.plain, a], by simp [Mini.depths, Mini.depth, b]⟩
theorem ints_alike : ∀ {xs ys : List D}, (∀ x ∈ xs, ∃ i, x = .int i) → (∀ x ∈ ys, ∃ i, x = .int i) → Mini.alikes xs ys = true
  | [], _, _, _ => by simp [Mini.alikes]
  | _ :: _, [], _, _ => by simp [Mini.alikes]
  | x :: r, y :: q, h, g => by
    obtain ⟨i, rfl⟩ := h x (List.mem_cons_self ..)
    obtain ⟨j, rfl⟩ := g y (List.mem_cons_self ..)
    simp only [Mini.alikes, Mini.alike, Bool.true_and]
    exact ints_alike (fun z hz => h z (List.mem_cons_of_mem _ hz)) fun z hz => g z (List.mem_cons_of_mem _ hz)
/-- what sortable says -/
structure Srt (xs : List D) : Prop where
  plain : ∀ d ∈ xs, Mini.plain d = true
  depth : ∀ d ∈ xs, Mini.depth d ≤ 60
  alike : ∀ d ∈ xs, ∀ e ∈ xs, Mini.alike d e = true
  non : ∀ d ∈ xs, toPy d ≠ .none
theorem intTups_srt {xs : List D} (h : xs.all Mini.isIntTup = true) : Srt xs := by
  have g : ∀ d ∈ xs, ∃ ys, d = .tup ys ∧ ∀ x ∈ ys, ∃ i, x = .int i := fun d hd => intTup_of (List.all_eq_true.mp h d hd)
  refine ⟨fun d hd => ?_, fun d hd => ?_, fun d hd e he => ?_, fun d hd => ?_⟩
  · obtain ⟨ys, rfl, q⟩ := g d hd
    simp only [Mini.plain]
    exact (ints_plain q).1
  · obtain ⟨ys, rfl, q⟩ := g d hd
    simp only [Mini.depth]
    rw [(ints_plain q).2]; decide
  · obtain ⟨ys, rfl, q⟩ := g d hd
    obtain ⟨zs, rfl, q'⟩ := g e he
    simp only [Mini.alike]
    exact ints_alike q q'
  · obtain ⟨ys, rfl, q⟩ := g d hd
    simp [toPy]
theorem sortable_srt {xs : List D} (h : Mini.sortable xs = true) : Srt xs := by
  unfold Mini.sortable at h
  rw [Bool.or_eq_true, Bool.or_eq_true] at h
  rcases h with (h | h) | h
  · have g : ∀ d ∈ xs, ∃ i, d = .int i := fun d hd => by
      have := List.all_eq_true.mp h d hd
      cases d <;> simp only [Mini.isIntD, Bool.false_eq_true] at this
      exact ⟨_, rfl⟩
    refine ⟨fun d hd => ?_, fun d hd => ?_, fun d hd e he => ?_, fun d hd => ?_⟩
    · obtain ⟨i, rfl⟩ := g d hd; simp [Mini.plain]
    · obtain ⟨i, rfl⟩ := g d hd; simp [Mini.depth]
    · obtain ⟨i, rfl⟩ := g d hd
      obtain ⟨j, rfl⟩ := g e he
      simp [Mini.alike]
    · obtain ⟨i, rfl⟩ := g d hd; simp [toPy]
  · exact intTups_srt h
  · rw [Bool.and_eq_true, List.all_eq_true, List.all_eq_true] at h
    have g : ∀ d ∈ xs, Mini.plain d = true ∧ Mini.depth d ≤ 60 ∧ Mini.isNon d = false := fun d hd => by
      have := h.1 d hd
      rw [Bool.and_eq_true] at this
      have q := shallow_of this.1
      exact ⟨q.1, q.2, by simpa using this.2⟩
    refine ⟨fun d hd => (g d hd).1, fun d hd => (g d hd).2.1, fun d hd e he => List.all_eq_true.mp (h.2 d hd) e he, fun d hd => ?_⟩
    obtain ⟨h1, _, h3⟩ := g d hd
    cases d <;> first | (simp [Mini.isNon] at h3; done) | (simp [Mini.plain] at h1; done) | simp [toPy]
theorem Srt.allAlike {xs : List D} (h : Srt xs) : PySem.W.AllAlike (xs.map toPy) := fun a ha b hb => by
  obtain ⟨d, hd, rfl⟩ := List.mem_map.mp ha
  obtain ⟨e, he, rfl⟩ := List.mem_map.mp hb
  rw [toPy_alike _ _ (h.plain d hd) (h.plain e he)]
  exact h.alike d hd e he
theorem sorts_at {A : Around} {xs : List D} {us : List Value} (h : Srt xs) (e : PySem.W.EachIs (fun v d => ∃ as, Reads s.heap v d as) us (xs.map toPy)) (hu : A.units + 60 < cLine) :
    PySem.W.SortsAt X.prog X.w A s (PySem.W.dataKind s.heap (xs.map toPy)) us := by
  have hd : ∀ d ∈ xs.map toPy, A.units + d.depth < cLine := fun d hd => by
    obtain ⟨y, hy, rfl⟩ := List.mem_map.mp hd
    rw [toPy_depth _ (h.plain y hy)]
    have := h.depth y hy
    omega
  by_cases ht : ∃ d ∈ xs.map toPy, ∃ ys, d = .tuple ys
  · obtain ⟨d, hdm, ys, rfl⟩ := ht
    refine SortX.sortsAt e h.allAlike (fun d' hd' => ?_) hd
    have := h.allAlike d' hd' _ hdm
    cases d' <;> first | (simp [PySem.W.alike] at this; done) | exact ⟨_, rfl⟩
  · refine PySem.W.SortsAt.data e h.allAlike (.inr fun d hdm => ⟨?_, fun ys z => ht ⟨d, hdm, ys, z⟩⟩) hd
    obtain ⟨y, hy, rfl⟩ := List.mem_map.mp hdm
    exact h.non y hy
theorem Srt.sorted {xs : List D} (h : Srt xs) : xs.mergeSort (PySem.W.dataLe false toPy) = Mini.sortD xs := by
  rw [← isortG_eq (dataLe_total false toPy), sortD_is]
  refine isortG_congr fun a ha b hb => ?_
  rw [PySem.W.dataLe_eq]
  show (!PySem.W.dataLt (toPy b) (toPy a)) = _
  rw [toPy_lt _ _ (h.plain b hb) (h.plain a ha) (h.alike b hb a ha)]
/-- the rule of a built-in function -/
def rBi (K : PySem.W.Frag) (fad : Nat → Addr) (b : Mini.Bi) : List V → Hp → VK → Prop := fun vs H Q => ∃ (Av : Addr → Prop) (ρ : List Addr) (st : Mini.St) (ds : List D) (d : D), SR K fad Av ρ H st ∧ RepLW K fad H Av ρ ds vs ∧ Mini.biD b ds = some d ∧
  ∀ v H', Grow H H' → SR K fad Av ρ H' st → PostN K fad H H' Av ρ d v → Q v H'
theorem RepLW.one {d : D} {vs : List V} (r : RepLW X.K fad H Av ρ [d] vs) : ∃ v, vs = [v] ∧ RepW X.K fad H Av ρ d v := by
  cases r with
  | cons h t => cases t; exact ⟨_, rfl, h⟩
theorem RepLW.two {d e : D} {vs : List V} (r : RepLW X.K fad H Av ρ [d, e] vs) : ∃ v w, vs = [v, w] ∧ RepW X.K fad H Av ρ d v ∧ RepW X.K fad H Av ρ e w := by
  cases r with
  | cons h t =>
    obtain ⟨w, rfl, hw⟩ := RepLW.one t
    exact ⟨_, w, rfl, h, hw⟩
theorem ones {v : V} {us : List Value} (r : Vals [v] us) : ∃ u, us = [u] ∧ RelV v u := r.one
theorem not_set {d : D} {xs : List D} (h : Mini.itemsD d = some xs) (hs : Mini.isSet d = false) : ∀ ys, d ≠ .set ys := fun ys z => by
  subst z
  simp [Mini.isSet] at hs
theorem call_sortedV (hc : X.calm = true) (hu : X.A.units + 64 < cLine) : CallR X (.builtin "sorted") (rBi X.K fad .sorted) := by
  intro pins s σ H vs us Q I r ⟨Av, ρ, st, ds, d, sr, w, e, q⟩
  unfold Mini.biD at e
  split at e <;> first | (cases e; done) | skip
  all_goals first | (rename_i h; cases h; done) | skip
  obtain ⟨xs, e1, e2⟩ := Option.bind_eq_some_iff.mp e
  split at e2 <;> cases e2
  rename_i hs
  rw [Bool.and_eq_true, Bool.not_eq_true'] at hs
  have S := sortable_srt hs.1
  obtain ⟨x, rfl, wx⟩ := w.one
  obtain ⟨u, rfl, rx⟩ := ones r
  refine sorted_of (I.ok.hd hc) I sr wx rx e1 (not_set e1 hs.2) (args_sorted1 _) fun s1 us vs I1 ⟨h', tk, e1⟩ rv hz rl => ?_
  have eD := each_of (X := X) rl rv
  have hp : H s1.heap.objs.size = none := I1.hok.fresh (Nat.le_refl _)
  generalize hs2 : ({ s1 with heap := s1.heap.push (seqObj "list" us.toArray 0) } : Shared) = s2
  have ho : s2.heap.get? s1.heap.objs.size = some (seqObj "list" us.toArray 0) := by rw [← hs2]; exact Heap.get?_push_size _ rfl
  have hlen := rv.length
  refine wpAny_call_entry slot_list_sort ⟨_, ho, rfl⟩ entry_list_sort ?_ (args_list_sort _)
  -- the items read the same while the list is sorted
  have keep : ∀ b o, s1.heap.get? b = some o → (PySem.W.sortingHeap s2.heap s1.heap.objs.size us).get? b = some o := fun b o e => by
    refine PySem.W.sortingHeap_old (Nat.ne_of_lt (Heap.lt_size e)) ?_
    rw [← hs2]
    exact Heap.get?_push_of_some _ e
  have er : PySem.W.EachIs (fun v d => ∃ as, Reads (PySem.W.sortingHeap s2.heap s1.heap.objs.size us) v (toPy d) as) us xs := (each_reads I1 eD S.plain).mono fun _ _ ⟨as, r⟩ => ⟨as, PyProof.Rows.Reads.keeps (fun b o => keep b o) r⟩
  have SA : PySem.W.SortsAt X.prog X.w X.A.in1.in1 { s2 with heap := PySem.W.sortingHeap s2.heap s1.heap.objs.size us } (PySem.W.dataKind (PySem.W.sortingHeap s2.heap s1.heap.objs.size us) (xs.map toPy)) us :=
    sorts_at (X := X) (s := { s2 with heap := PySem.W.sortingHeap s2.heap s1.heap.objs.size us }) S (PySem.W.each_map (R := fun v d => ∃ as, Reads (PySem.W.sortingHeap s2.heap s1.heap.objs.size us) v d as) toPy er) (by show X.A.units + 1 + 1 + 60 < cLine; omega)
  refine PySem.W.list_sort_vals ho SA hz ⟨_, rfl, ?_⟩
  have eo := PySem.W.sortVals_data false eD er S.allAlike
  rw [S.sorted] at eo
  obtain ⟨vs', rv', rl'⟩ := of_each eo
  obtain ⟨n', hn'⟩ := sortedHeap_at (vs := us) (out := (PySem.W.sortVals (PySem.W.dataKind (PySem.W.sortingHeap s2.heap s1.heap.objs.size us) (xs.map toPy)) false us us).toArray) ho
  have hl' : vs'.length ≤ sizeLine := by rw [rv'.length, PySem.W.sortVals_length false rfl]; exact hz
  have sz2 : s2.heap.objs.size = s1.heap.objs.size + 1 := by rw [← hs2]; exact size_push' _ _
  refine ⟨.ref s1.heap.objs.size, upd H s1.heap.objs.size (.lst vs'), ?_, rfl, q _ _ (Grow.new hp) (sr.new hp) (sr.newL hp rl')⟩
  have J := I1.laid (t' := s2.toks) (h' := sortedHeap s2.heap s1.heap.objs.size us (PySem.W.sortVals (PySem.W.dataKind (PySem.W.sortingHeap s2.heap s1.heap.objs.size us) (xs.map toPy)) false us us).toArray) (a := s1.heap.objs.size) (o := .lst vs') (fun b o e => by
    have hb := Heap.lt_size e
    rw [sortedHeap_old (Nat.ne_of_lt hb) (by rw [sz2]; exact Nat.lt_succ_of_lt hb), ← hs2]
    exact Heap.get?_push_of_some _ e) (Nat.le_refl _) ⟨hl', _, n', rv', hn'⟩
  rw [← hs2] at J ⊢
  exact J
end
end Snd
end

section
set_option autoImplicit false
set_option Elab.async false
set_option linter.all false
set_option maxRecDepth 100000
set_option maxHeartbeats 1000000
/-! Snd7: the evaluator's reading of an expression; operators. -/
namespace Snd
open PySem PySem.Spec PyProof.Rows L2
open Mini (D Sl T)

/-- how an answer is wanted: looked at, as a value, as one that nobody else holds -/
inductive Kd where
  | bor | val | fre
def Post (kd : Kd) (K : PySem.W.Frag) (fad : Nat → Addr) (H0 H : Hp) (Av : Addr → Prop) (ρ : List Addr) (d : D) (v : V) : Prop := match kd with
  | .bor => RepW K fad H Av ρ d v
  | .val => Rep K fad H (Bd Av ρ) ρ d v
  | .fre => PostN K fad H0 H Av ρ d v
abbrev EvF := Mini.Env → Mini.St → Option (D × Mini.St)
/-- the evaluator's reading -/
def tF (K : PySem.W.Frag) (fad : Nat → Addr) (kd : Kd) (f : EvF) : TE := fun σ H Q => ∃ (Av : Addr → Prop) (ρ : List Addr) (env : Mini.Env) (st : Mini.St) (d : D) (st' : Mini.St), EV K fad Av ρ H env σ st ∧ f env st = some (d, st') ∧
  ∀ ρ' H' v, Ext ρ ρ' H H' → SR K fad Av ρ' H' st' → Post kd K fad H H' Av ρ' d v → Q v H'
def tFL (K : PySem.W.Frag) (fad : Nat → Addr) (bw : Bool) (f : Mini.Env → Mini.St → Option (List D × Mini.St)) : TA := fun σ H Q => ∃ (Av : Addr → Prop) (ρ : List Addr) (env : Mini.Env) (st : Mini.St) (ds : List D) (st' : Mini.St), EV K fad Av ρ H env σ st ∧ f env st = some (ds, st') ∧
  ∀ ρ' H' vs, Ext ρ ρ' H H' → SR K fad Av ρ' H' st' → (if bw = true then RepLW K fad H' Av ρ' ds vs else RepL K fad H' (Bd Av ρ') ρ' ds vs) → Q vs H'
def tFT (K : PySem.W.Frag) (fad : Nat → Addr) (f : EvF) : TT := fun σ H Q => ∃ (Av : Addr → Prop) (ρ : List Addr) (env : Mini.Env) (st : Mini.St) (b : Bool) (st' : Mini.St), EV K fad Av ρ H env σ st ∧ f env st = some (.bl b, st') ∧
  ∀ ρ' H', Ext ρ ρ' H H' → SR K fad Av ρ' H' st' → Q b H'

theorem _root_.L2.PE.imp {X : Cx} {e : Expr} {t t' : TE} (h : PE X e t) (i : ∀ σ H Q, t' σ H Q → t σ H Q) : PE X e t' := ⟨fun pins s σ H Q I hw => h.run pins s σ H Q I (i _ _ _ hw)⟩
theorem _root_.L2.PT.imp {X : Cx} {e : Expr} {t t' : TT} (h : PT X e t) (i : ∀ σ H Q, t' σ H Q → t σ H Q) : PT X e t' := ⟨fun pins s σ H Q I hw => h.run pins s σ H Q I (i _ _ _ hw)⟩
theorem _root_.L2.PW.imp {X : Cx} {e : Expr} {t t' : TT} (h : PW X e t) (i : ∀ σ H Q, t' σ H Q → t σ H Q) : PW X e t' := ⟨fun wh pins s σ H Q I hw => h.run wh pins s σ H Q I (i _ _ _ hw)⟩
theorem _root_.L2.PA.imp {X : Cx} {e : List Expr} {t t' : TA} (h : PA X e t) (i : ∀ σ H Q, t' σ H Q → t σ H Q) : PA X e t' := ⟨fun pos pins s σ H Q I hw => h.run pos pins s σ H Q I (i _ _ _ hw)⟩
theorem _root_.L2.PS.imp {X : Cx} {e : Stmt} {t t' : TS} (h : PS X e t) (i : ∀ D σ H, t' D σ H → t D σ H) : PS X e t' := ⟨fun pins s σ H D I hw => h.run pins s σ H D I (i _ _ _ hw)⟩
theorem _root_.L2.PSs.imp {X : Cx} {e : List Stmt} {t t' : TS} (h : PSs X e t) (i : ∀ D σ H, t' D σ H → t D σ H) : PSs X e t' := ⟨fun pins s σ H D I hw => h.run pins s σ H D I (i _ _ _ hw)⟩
theorem _root_.L2.PK.imp {X : Cx} {e : List Keyword} {t t' : TA} (h : PK X e t) (i : ∀ σ H Q, t' σ H Q → t σ H Q) : PK X e t' := ⟨fun pos pins s σ H Q I hw => h.run pos pins s σ H Q I (i _ _ _ hw)⟩

section
variable {X : Cx} {fad : Nat → Addr} {H H' H0 H1 : Hp} {Av : Addr → Prop} {ρ ρ' : List Addr} {st st' : Mini.St} {env : Mini.Env} {σ : L2.St}
theorem Post.bor {K : PySem.W.Frag} {kd : Kd} {d : D} {v : V} (h : Post kd K fad H0 H Av ρ d v) : RepW K fad H Av ρ d v := by
  cases kd with
  | bor => exact h
  | val => exact .of h
  | fre => exact .of (PostN.rep h)
theorem Post.any {K : PySem.W.Frag} {kd : Kd} {d : D} {v : V} (h : PostN K fad H0 H Av ρ d v) : Post kd K fad H0 H Av ρ d v := by
  cases kd with
  | bor => exact .of h.rep
  | val => exact h.rep
  | fre => exact h
theorem Post.rep {K : PySem.W.Frag} {d : D} {v : V} (h : Rep K fad H (Bd Av ρ) ρ d v) {kd : Kd} (hk : kd = .bor ∨ kd = .val) : Post kd K fad H0 H Av ρ d v := by
  rcases hk with rfl | rfl
  · exact .of h
  · exact h
/-- fresh since an earlier moment -/
theorem PostN.earlier {K : PySem.W.Frag} {d : D} {v : V} (h : PostN K fad H1 H Av ρ d v) (k : ∀ p, H0 p ≠ none → H1 p ≠ none) : PostN K fad H0 H Av ρ d v := by
  have e : ∀ p, H1 p = none → H0 p = none := fun p hp => by
    cases q : H0 p with
    | none => rfl
    | some o => exact absurd hp (k p (by rw [q]; simp))
  cases d with
  | lst xs =>
    cases h with
    | lst h0 h1 h2 h3 => exact .lst (e _ h0) h1 h2 h3
  | dct xs =>
    cases h with
    | dct h0 h1 h2 h3 => exact .dct (e _ h0) h1 h2 h3
  | _ => exact h
theorem atomPost {K : PySem.W.Frag} {kd : Kd} {d : D} {v : V} (h : Rep K fad H (Bd Av ρ) ρ d v) (hd : Mini.ownable d = false) : Post kd K fad H0 H Av ρ d v := by
  refine Post.any ?_
  cases d <;> first | (simp [Mini.ownable] at hd; done) | exact h

/-! ### two operands -/
/-- behind two operands: what the rule of an operator asks -/
theorem tOp_F {fa fb : EvF} {kd : Kd} {g : D → D → Mini.St → Option (D × Mini.St)} {r : R2} {σ : L2.St} {Q : VK}
    (hr : ∀ {Av : Addr → Prop} {ρ : List Addr} {st st' : Mini.St} {x y d : D} {vx vy : V} {H : Hp} {Q : VK}, SR X.K fad Av ρ H st → RepW X.K fad H Av ρ x vx → RepW X.K fad H Av ρ y vy → g x y st = some (d, st') →
      (∀ v H', Ext ρ ρ H H' → SR X.K fad Av ρ H' st' → Post kd X.K fad H H' Av ρ d v → Q v H') → r vx vy H Q)
    (h : tF X.K fad kd (fun env st => (fa env st).bind fun (x, s1) => (fb env s1).bind fun (y, s2) => g x y s2) σ H Q) : tOp r (tF X.K fad .bor fa) (tF X.K fad .bor fb) σ H Q := by
  obtain ⟨Av, ρ, env, st, d, st', ev, e, q⟩ := h
  obtain ⟨⟨x, s1⟩, e1, e⟩ := Option.bind_eq_some_iff.mp e
  obtain ⟨⟨y, s2⟩, e2, e⟩ := Option.bind_eq_some_iff.mp e
  refine ⟨Av, ρ, env, st, x, s1, ev, e1, fun ρ1 H1 v x1 r1 p1 => ?_⟩
  have ev1 := ev.ext x1 r1
  refine ⟨Av, ρ1, env, s1, y, s2, ev1, e2, fun ρ2 H2 u x2 r2 p2 => ?_⟩
  have k1 := ev.sr.kept x1 r1
  have k2 := r1.kept x2 r2
  refine hr r2 (RepW.ext p1 r1 x2) p2 e fun w H3 x3 r3 p3 => ?_
  refine q ρ2 H3 w ((ev.sr.trans r1 x1 x2).trans x3 fun p hp => k2 p (k1 p hp)) r3 ?_
  cases kd with
  | bor => exact p3
  | val => exact p3
  | fre => exact PostN.earlier p3 fun p hp => k2 p (k1 p hp)
theorem pe_binF {a b : Expr} {pos : Pos} {fa fb : EvF} {kd : Kd} (o : Mini.Bin) (ha : PE X a (tF X.K fad .bor fa)) (hb : PE X b (tF X.K fad .bor fb)) :
    PE X (.BinOp a (opOf o) b pos) (tF X.K fad kd fun env st => (fa env st).bind fun (x, s1) => (fb env s1).bind fun (y, s2) => (Mini.binD o x y).map (·, s2)) := by
  refine (pe_op (op_binV (fad := fad) o) ha hb).imp fun σ H Q h => tOp_F (g := fun x y s2 => (Mini.binD o x y).map (·, s2)) (fun {Av ρ st st' x y d vx vy H Q} sr wx wy e q => ?_) h
  obtain ⟨d', e1, e2⟩ := Option.map_eq_some_iff.mp e
  cases e2
  exact ⟨Av, ρ, st, x, y, d, sr, wx, wy, e1, fun v H' x3 r3 p3 => q v H' x3.ext r3 (Post.any p3)⟩
theorem pe_cmF {a b : Expr} {pos : Pos} {fa fb : EvF} {kd : Kd} (hu : X.A.units + 64 < cLine) (o : Mini.Cm) (ha : PE X a (tF X.K fad .bor fa)) (hb : PE X b (tF X.K fad .bor fb)) (hm : behindInMarks (cmOf o) b = false) :
    PE X (.Compare a [cmOf o] [b] pos) (tF X.K fad kd fun env st => (fa env st).bind fun (x, s1) => (fb env s1).bind fun (y, s2) => (Mini.cmpD o x y).map fun c => (.bl c, s2)) := by
  refine (pe_cmpR (op_cmV (fad := fad) hu o) ha hb hm).imp fun σ H Q h => tOp_F (g := fun x y s2 => (Mini.cmpD o x y).map fun c => (.bl c, s2)) (fun {Av ρ st st' x y d vx vy H Q} sr wx wy e q => ?_) h
  obtain ⟨c, e1, e2⟩ := Option.map_eq_some_iff.mp e
  cases e2
  exact ⟨Av, ρ, st, x, y, c, sr, wx, wy, e1, q _ _ Ext.refl sr (atomPost (.bl c) rfl)⟩
theorem pt_cmF {a b : Expr} {pos : Pos} {fa fb : EvF} (hu : X.A.units + 64 < cLine) (o : Mini.Cm) (ha : PE X a (tF X.K fad .bor fa)) (hb : PE X b (tF X.K fad .bor fb)) (hm : behindInMarks (cmOf o) b = false) :
    PT X (.Compare a [cmOf o] [b] pos) (tFT X.K fad fun env st => (fa env st).bind fun (x, s1) => (fb env s1).bind fun (y, s2) => (Mini.cmpD o x y).map fun c => (.bl c, s2)) := by
  refine (pt_cmpR (op_cmV (fad := fad) hu o) ha hb hm).imp fun σ H Q h => ?_
  obtain ⟨Av, ρ, env, st, c, st', ev, e, q⟩ := h
  refine tOp_F (kd := .val) (g := fun x y s2 => (Mini.cmpD o x y).map fun c => (.bl c, s2)) (fun {Av ρ st st' x y d vx vy H Q} sr wx wy e q => ?_) (⟨Av, ρ, env, st, .bl c, st', ev, e, fun ρ' H' v x3 r3 p3 => ?_⟩ : tF X.K fad .val _ σ H _)
  · obtain ⟨c, e1, e2⟩ := Option.map_eq_some_iff.mp e
    cases e2
    exact ⟨Av, ρ, st, x, y, c, sr, wx, wy, e1, q _ _ Ext.refl sr (.bl c)⟩
  · cases p3
    exact ⟨c, rfl, q ρ' H' x3 r3⟩
theorem pe_ixF {a b : Expr} {pos : Pos} {fa fb : EvF} {kd : Kd} (hk : kd = .bor ∨ kd = .val) (hu : X.A.units + 64 < cLine) (ha : PE X a (tF X.K fad .bor fa)) (hb : PE X b (tF X.K fad .bor fb)) (hs : PlainIx b) :
    PE X (.Subscript a b pos) (tF X.K fad kd fun env st => (fa env st).bind fun (x, s1) => (fb env s1).bind fun (y, s2) => (Mini.ixD s2 x y).map (·, s2)) := by
  refine (pe_ix (ix_V (fad := fad) hu) ha hb hs).imp fun σ H Q h => tOp_F (g := fun x y s2 => (Mini.ixD s2 x y).map (·, s2)) (fun {Av ρ st st' x y d vx vy H Q} sr wx wy e q => ?_) h
  obtain ⟨d', e1, e2⟩ := Option.map_eq_some_iff.mp e
  cases e2
  exact ⟨Av, ρ, st, x, y, d, sr, wx, wy, e1, fun v p3 => q v H Ext.refl sr (Post.rep p3 hk)⟩

/-! ### one operand, tests -/
theorem pe_negF {a : Expr} {pos : Pos} {fa : EvF} {kd : Kd} (ha : PE X a (tF X.K fad .bor fa)) :
    PE X (.UnaryOp .USub a pos) (tF X.K fad kd fun env st => (fa env st).bind fun (x, s1) => match x with | .int i => some (.int (-i), s1) | _ => none) := by
  refine (pe_un un_neg ha).imp fun σ H Q h => ?_
  obtain ⟨Av, ρ, env, st, d, st', ev, e, q⟩ := h
  obtain ⟨⟨x, s1⟩, e1, e⟩ := Option.bind_eq_some_iff.mp e
  refine ⟨Av, ρ, env, st, x, s1, ev, e1, fun ρ1 H1 v x1 r1 p1 => ?_⟩
  simp only at e
  split at e <;> cases e
  exact ⟨_, RepW.int_inv p1, q ρ1 H1 _ x1 r1 (atomPost (.int _) rfl)⟩
theorem tru_bl {x : D} {c : Bool} (h : Mini.tru x = some c) : x = .bl c := by
  cases x <;> simp [Mini.tru] at h
  rw [h]
theorem pe_notF {a : Expr} {pos : Pos} {fa : EvF} {kd : Kd} (ha : PE X a (tF X.K fad .bor fa)) :
    PE X (.UnaryOp .Not a pos) (tF X.K fad kd fun env st => (fa env st).bind fun (x, s1) => (Mini.tru x).map fun b => (.bl (!b), s1)) := by
  refine (pe_not ha).imp fun σ H Q h => ?_
  obtain ⟨Av, ρ, env, st, d, st', ev, e, q⟩ := h
  obtain ⟨⟨x, s1⟩, e1, e⟩ := Option.bind_eq_some_iff.mp e
  obtain ⟨c, e2, e⟩ := Option.map_eq_some_iff.mp e
  cases e
  refine ⟨Av, ρ, env, st, x, st', ev, e1, fun ρ1 H1 v x1 r1 p1 => ?_⟩
  rw [tru_bl e2] at p1
  exact ⟨c, RepW.bl_inv p1, q ρ1 H1 _ x1 r1 (atomPost (.bl _) rfl)⟩
theorem pt_notF {a : Expr} {pos : Pos} {fa : EvF} (ha : PT X a (tFT X.K fad fa)) :
    PT X (.UnaryOp .Not a pos) (tFT X.K fad fun env st => (fa env st).bind fun (x, s1) => (Mini.tru x).map fun b => (.bl (!b), s1)) := by
  refine (pt_not ha).imp fun σ H Q h => ?_
  obtain ⟨Av, ρ, env, st, d, st', ev, e, q⟩ := h
  obtain ⟨⟨x, s1⟩, e1, e⟩ := Option.bind_eq_some_iff.mp e
  obtain ⟨c, e2, e⟩ := Option.map_eq_some_iff.mp e
  cases e
  rw [tru_bl e2] at e1
  exact ⟨Av, ρ, env, st, c, st', ev, e1, fun ρ1 H1 x1 r1 => q ρ1 H1 x1 r1⟩
/-- a value that is a bool, as a test -/
theorem pt_valF {a : Expr} {fa : EvF} (ha : PE X a (tF X.K fad .bor fa)) (he : ∀ whole, isTrue a X.env whole = (do let v ← whole; standAt a.pos; holding [v] (truthy v))) : PT X a (tFT X.K fad fa) := by
  refine (pt_val ha he).imp fun σ H Q h => ?_
  obtain ⟨Av, ρ, env, st, b, st', ev, e, q⟩ := h
  exact ⟨Av, ρ, env, st, .bl b, st', ev, e, fun ρ1 H1 v x1 r1 p1 => ⟨b, RepW.bl_inv p1, q ρ1 H1 x1 r1⟩⟩
abbrev andF (fa fb : EvF) : EvF := fun env st => (fa env st).bind fun (x, s1) => (Mini.tru x).bind fun c => if c then fb env s1 else some (.bl false, s1)
abbrev orF (fa fb : EvF) : EvF := fun env st => (fa env st).bind fun (x, s1) => (Mini.tru x).bind fun c => if c then some (.bl true, s1) else fb env s1
abbrev ifF (fc fa fb : EvF) : EvF := fun env st => (fc env st).bind fun (x, s1) => (Mini.tru x).bind fun c => if c then fa env s1 else fb env s1
/-- from a second reading back to the first state -/
theorem tF_after {f : EvF} {kd : Kd} {ρ1 : List Addr} {s1 : Mini.St} {d : D} {Q : VK} (ev : EV X.K fad Av ρ H env σ st) (x1 : Ext ρ ρ1 H H1) (r1 : SR X.K fad Av ρ1 H1 s1) (e : f env s1 = some (d, st'))
    (q : ∀ ρ' H' v, Ext ρ ρ' H H' → SR X.K fad Av ρ' H' st' → Post kd X.K fad H H' Av ρ' d v → Q v H') : tF X.K fad kd f σ H1 Q := by
  refine ⟨Av, ρ1, env, s1, d, st', ev.ext x1 r1, e, fun ρ2 H2 v x2 r2 p2 => q ρ2 H2 v (ev.sr.trans r1 x1 x2) r2 ?_⟩
  cases kd with
  | bor => exact p2
  | val => exact p2
  | fre => exact PostN.earlier p2 (ev.sr.kept x1 r1)
theorem pe_andF {a b : Expr} {rest : List Expr} {pos : Pos} {fa fb : EvF} {kd : Kd} (ha : PE X a (tF X.K fad .bor fa)) (hb : PE X (.BoolOp .And (b :: rest) pos) (tF X.K fad kd fb)) :
    PE X (.BoolOp .And (a :: b :: rest) pos) (tF X.K fad kd (andF fa fb)) := by
  refine (pe_and ha hb).imp fun σ H Q h => ?_
  obtain ⟨Av, ρ, env, st, d, st', ev, e, q⟩ := h
  obtain ⟨⟨x, s1⟩, e1, e⟩ := Option.bind_eq_some_iff.mp e
  obtain ⟨c, e2, e⟩ := Option.bind_eq_some_iff.mp e
  refine ⟨Av, ρ, env, st, x, s1, ev, e1, fun ρ1 H1 v x1 r1 p1 => ?_⟩
  rw [tru_bl e2] at p1
  refine ⟨c, RepW.bl_inv p1, ?_⟩
  cases c with
  | true => exact iteT (tF_after ev x1 r1 (by simpa using e) q)
  | false =>
    have e' : some (D.bl false, s1) = some (d, st') := by simpa using e
    cases e'
    exact iteF (q ρ1 H1 _ x1 r1 (atomPost (.bl _) rfl))
theorem pe_orF {a b : Expr} {rest : List Expr} {pos : Pos} {fa fb : EvF} {kd : Kd} (ha : PE X a (tF X.K fad .bor fa)) (hb : PE X (.BoolOp .Or (b :: rest) pos) (tF X.K fad kd fb)) :
    PE X (.BoolOp .Or (a :: b :: rest) pos) (tF X.K fad kd (orF fa fb)) := by
  refine (pe_or ha hb).imp fun σ H Q h => ?_
  obtain ⟨Av, ρ, env, st, d, st', ev, e, q⟩ := h
  obtain ⟨⟨x, s1⟩, e1, e⟩ := Option.bind_eq_some_iff.mp e
  obtain ⟨c, e2, e⟩ := Option.bind_eq_some_iff.mp e
  refine ⟨Av, ρ, env, st, x, s1, ev, e1, fun ρ1 H1 v x1 r1 p1 => ?_⟩
  rw [tru_bl e2] at p1
  refine ⟨c, RepW.bl_inv p1, ?_⟩
  cases c with
  | false => exact iteF (tF_after ev x1 r1 (by simpa using e) q)
  | true =>
    have e' : some (D.bl true, s1) = some (d, st') := by simpa using e
    cases e'
    exact iteT (q ρ1 H1 _ x1 r1 (atomPost (.bl _) rfl))
theorem tFT_after {f : EvF} {ρ1 : List Addr} {s1 : Mini.St} {b : Bool} {Q : Bool → Hp → Prop} (ev : EV X.K fad Av ρ H env σ st) (x1 : Ext ρ ρ1 H H1) (r1 : SR X.K fad Av ρ1 H1 s1) (e : f env s1 = some (.bl b, st'))
    (q : ∀ ρ' H', Ext ρ ρ' H H' → SR X.K fad Av ρ' H' st' → Q b H') : tFT X.K fad f σ H1 Q :=
  ⟨Av, ρ1, env, s1, b, st', ev.ext x1 r1, e, fun ρ2 H2 x2 r2 => q ρ2 H2 (ev.sr.trans r1 x1 x2) r2⟩
theorem pw_andF {a b : Expr} {rest : List Expr} {pos : Pos} {fa fb : EvF} (ha : PT X a (tFT X.K fad fa)) (hb : PW X (.BoolOp .And (b :: rest) pos) (tFT X.K fad fb)) :
    PW X (.BoolOp .And (a :: b :: rest) pos) (tFT X.K fad (andF fa fb)) := by
  refine (pw_and ha hb).imp fun σ H Q h => ?_
  obtain ⟨Av, ρ, env, st, d, st', ev, e, q⟩ := h
  obtain ⟨⟨x, s1⟩, e1, e⟩ := Option.bind_eq_some_iff.mp e
  obtain ⟨c, e2, e⟩ := Option.bind_eq_some_iff.mp e
  rw [tru_bl e2] at e1
  refine ⟨Av, ρ, env, st, c, s1, ev, e1, fun ρ1 H1 x1 r1 => ?_⟩
  cases c with
  | true => exact iteT (tFT_after ev x1 r1 (by simpa using e) q)
  | false =>
    have e' : some (D.bl false, s1) = some (D.bl d, st') := by simpa using e
    cases e'
    exact iteF (q ρ1 H1 x1 r1)
theorem pw_orF {a b : Expr} {rest : List Expr} {pos : Pos} {fa fb : EvF} (ha : PT X a (tFT X.K fad fa)) (hb : PW X (.BoolOp .Or (b :: rest) pos) (tFT X.K fad fb)) :
    PW X (.BoolOp .Or (a :: b :: rest) pos) (tFT X.K fad (orF fa fb)) := by
  refine (pw_or ha hb).imp fun σ H Q h => ?_
  obtain ⟨Av, ρ, env, st, d, st', ev, e, q⟩ := h
  obtain ⟨⟨x, s1⟩, e1, e⟩ := Option.bind_eq_some_iff.mp e
  obtain ⟨c, e2, e⟩ := Option.bind_eq_some_iff.mp e
  rw [tru_bl e2] at e1
  refine ⟨Av, ρ, env, st, c, s1, ev, e1, fun ρ1 H1 x1 r1 => ?_⟩
  cases c with
  | false => exact iteF (tFT_after ev x1 r1 (by simpa using e) q)
  | true =>
    have e' : some (D.bl true, s1) = some (D.bl d, st') := by simpa using e
    cases e'
    exact iteT (q ρ1 H1 x1 r1)
theorem pe_ifF {c a b : Expr} {pos : Pos} {fc fa fb : EvF} {kd : Kd} (hc : PT X c (tFT X.K fad fc)) (ha : PE X a (tF X.K fad kd fa)) (hb : PE X b (tF X.K fad kd fb)) :
    PE X (.IfExp c a b pos) (tF X.K fad kd (ifF fc fa fb)) := by
  refine (pe_ifExp hc ha hb).imp fun σ H Q h => ?_
  obtain ⟨Av, ρ, env, st, d, st', ev, e, q⟩ := h
  obtain ⟨⟨x, s1⟩, e1, e⟩ := Option.bind_eq_some_iff.mp e
  obtain ⟨k, e2, e⟩ := Option.bind_eq_some_iff.mp e
  rw [tru_bl e2] at e1
  refine ⟨Av, ρ, env, st, k, s1, ev, e1, fun ρ1 H1 x1 r1 => ?_⟩
  cases k with
  | true => exact iteT (tF_after ev x1 r1 (by simpa using e) q)
  | false => exact iteF (tF_after ev x1 r1 (by simpa using e) q)
abbrev chF (o p : Mini.Cm) (fa fb fc : EvF) : EvF := fun env st => (fa env st).bind fun (x, s1) => (fb env s1).bind fun (y, s2) => (Mini.cmpD o x y).bind fun k =>
      if k then (fc env s2).bind fun (z, s3) => (Mini.cmpD p y z).map fun c => (.bl c, s3) else some (.bl false, s2)
theorem tCh_F {fa fb fc : EvF} {o p : Mini.Cm} {kd : Kd} {Q : VK} (h : tF X.K fad kd (chF o p fa fb fc) σ H Q) : tChain (rC2 X.K fad (Mini.cmpD o)) (rC2 X.K fad (Mini.cmpD p)) (tF X.K fad .bor fa) (tF X.K fad .bor fb) (tF X.K fad .bor fc) σ H Q := by
  obtain ⟨Av, ρ, env, st, d, st', ev, e, q⟩ := h
  obtain ⟨⟨x, s1⟩, e1, e⟩ := Option.bind_eq_some_iff.mp e
  obtain ⟨⟨y, s2⟩, e2, e⟩ := Option.bind_eq_some_iff.mp e
  obtain ⟨k, e3, e⟩ := Option.bind_eq_some_iff.mp e
  refine ⟨Av, ρ, env, st, x, s1, ev, e1, fun ρ1 H1 v x1 r1 p1 => ?_⟩
  have ev1 := ev.ext x1 r1
  refine ⟨Av, ρ1, env, s1, y, s2, ev1, e2, fun ρ2 H2 u x2 r2 p2 => ?_⟩
  have x12 := ev.sr.trans r1 x1 x2
  refine ⟨Av, ρ2, s2, x, y, k, r2, RepW.ext p1 r1 x2, p2, e3, k, rfl, ?_⟩
  cases k with
  | true =>
    obtain ⟨⟨z, s3⟩, e4, e⟩ := Option.bind_eq_some_iff.mp (show ((fc env s2).bind fun (z, s3) => (Mini.cmpD p y z).map fun c => (D.bl c, s3)) = some (d, st') by simpa using e)
    obtain ⟨c, e5, e⟩ := Option.map_eq_some_iff.mp e
    cases e
    have ev2 := ev1.ext x2 r2
    refine iteT ⟨Av, ρ2, env, s2, z, st', ev2, e4, fun ρ3 H3 w x3 r3 p3 => ?_⟩
    exact ⟨Av, ρ3, st', y, z, c, r3, RepW.ext p2 r2 x3, p3, e5, q ρ3 H3 _ (ev.sr.trans r2 x12 x3) r3 (atomPost (.bl c) rfl)⟩
  | false =>
    have e' : some (D.bl false, s2) = some (d, st') := by simpa using e
    cases e'
    exact iteF (q ρ2 H2 _ x12 r2 (atomPost (.bl false) rfl))
theorem pe_chF {a b c : Expr} {pos : Pos} {fa fb fc : EvF} {kd : Kd} (hu : X.A.units + 64 < cLine) (o p : Mini.Cm) (ha : PE X a (tF X.K fad .bor fa)) (hb : PE X b (tF X.K fad .bor fb)) (hc : PE X c (tF X.K fad .bor fc)) (hm : lastMarks [cmOf o, cmOf p] [b, c] = false) :
    PE X (.Compare a [cmOf o, cmOf p] [b, c] pos) (tF X.K fad kd (chF o p fa fb fc)) := (pe_chain (op_cmV (fad := fad) hu o) (op_cmV (fad := fad) hu p) ha hb hc hm).imp fun σ H Q h => tCh_F h
theorem pt_chF {a b c : Expr} {pos : Pos} {fa fb fc : EvF} (hu : X.A.units + 64 < cLine) (o p : Mini.Cm) (ha : PE X a (tF X.K fad .bor fa)) (hb : PE X b (tF X.K fad .bor fb)) (hc : PE X c (tF X.K fad .bor fc)) (hm : lastMarks [cmOf o, cmOf p] [b, c] = false) :
    PT X (.Compare a [cmOf o, cmOf p] [b, c] pos) (tFT X.K fad (chF o p fa fb fc)) := by
  refine (pt_chain (op_cmV (fad := fad) hu o) (op_cmV (fad := fad) hu p) ha hb hc hm).imp fun σ H Q h => ?_
  obtain ⟨Av, ρ, env, st, k, st', ev, e, q⟩ := h
  refine tCh_F (kd := .val) (⟨Av, ρ, env, st, .bl k, st', ev, e, fun ρ' H' v x3 r3 p3 => ?_⟩ : tF X.K fad .val _ σ H _)
  cases p3
  exact ⟨k, rfl, q ρ' H' x3 r3⟩
end
end Snd
end

section
set_option autoImplicit false
set_option Elab.async false
set_option linter.all false
set_option maxRecDepth 100000
set_option maxHeartbeats 4000000
/-! ItX: for i, x in enumerate(a tuple). -/
namespace PySem
open Sem (wp)
open AutoSeq1 (wpAny_loadPart')
theorem itx_meets_enumerate_newT (l : Addr) (items : Array Value) (n : Nat) (dct : Option Addr) (sl : Array (Option Value)) :
    Meets (Builtin.«enumerate.__new__» ⟨[.type "enumerate", .ref l], []⟩) (fun _ R s => s.heap.get? l = some { cls := .type "tuple", dict := dct, data := .seq items n, slots := sl } ∧
      R (.ok (.ret (.ref (s.heap.push { cls := .type "tuple_iterator", data := .fields #[.ref l, .int 0 0] }).objs.size)))
        { s with heap := (s.heap.push { cls := .type "tuple_iterator", data := .fields #[.ref l, .int 0 0] }).push { cls := .type "enumerate", data := .fields #[.none, .bool false, .ref s.heap.objs.size, rawInt 0, .none, .none] } }) :=
  .of_wp fun prog w A R s h => by
    obtain ⟨hp, g, d, tk, os⟩ := s; obtain ⟨hl, h⟩ := h
    have hsub := sub_enumerate
    have hL : Heap.IsTuple (Shared.heap ⟨hp, g, d, tk, os⟩) l items := ⟨_, hl, rfl, n, rfl⟩
    wp_walk using wpAny_loadPart' hl
    refine wpAny_stack_any fun st => wpAny_pure ?_
    split
    · rename_i c _ _ _ _ _
      cases (c == Value.type "enumerate")
      · wp_walk using wpAny_loadPart' hl, wpAny_pyIter_tuple hL
        exact ⟨_, rfl, h⟩
      · wp_walk using wpAny_loadPart' hl, wpAny_pyIter_tuple hL
        exact ⟨_, rfl, h⟩
    · wp_walk using wpAny_loadPart' hl, wpAny_pyIter_tuple hL
      exact ⟨_, rfl, h⟩
section
variable {prog : Program} {w : World} {A : Around} {E : Value → Shared → Prop} {s : Shared}
theorem itx_call_enumerate_tuple {l : Addr} {items : Array Value} {Q : Value → Shared → Prop} (hL : s.heap.IsTuple l items)
    (h : ∀ h', IsEnum h' (s.heap.objs.size + 1) s.heap.objs.size 0 .none → h'.IsTupleIter s.heap.objs.size l 0 → h'.objs.size = s.heap.objs.size + 2 →
      (∀ b o, s.heap.get? b = some o → h'.get? b = some o) → Q (.ref (s.heap.objs.size + 1)) { s with heap := h' }) :
    wpAny (model prog w) A (call (.type "enumerate") [.ref l]) Q E s := by
  obtain ⟨⟨c, dct, dt, sl⟩, hl, hc, n, hd⟩ := hL
  replace hc : c = .type "tuple" := hc
  replace hd : dt = .seq items n := hd
  subst hc hd
  refine callType_new F.called_enumerate (by decide) (F.typeCall_enumerate_1 _) (F.newCall_enumerate_1 _) (fun obj => F.args_object_init_2 obj _) F.entry_enumerate_new
    (itx_meets_enumerate_newT l items n dct sl) ⟨hl, ?_⟩
  have hz : (s.heap.push { cls := .type "tuple_iterator", data := .fields #[.ref l, .int 0 0] }).objs.size = s.heap.objs.size + 1 := Heap.size_push ..
  show _ ∧ _
  rw [hz]
  have he : IsEnum ((s.heap.push { cls := .type "tuple_iterator", data := .fields #[.ref l, .int 0 0] }).push
      { cls := .type "enumerate", data := .fields #[.none, .bool false, .ref s.heap.objs.size, rawInt 0, .none, .none] }) (s.heap.objs.size + 1) s.heap.objs.size 0 .none := by
    have := Heap.get?_push_size (s.heap.push { cls := .type "tuple_iterator", data := .fields #[.ref l, .int 0 0] })
      (o := { cls := .type "enumerate", data := .fields #[.none, .bool false, .ref s.heap.objs.size, rawInt 0, .none, .none] }) rfl
    rw [hz] at this; exact this
  refine ⟨⟨_, he, rfl⟩, h _ he ⟨_, Heap.get?_push_of_some _ (Heap.get?_push_size _ rfl), rfl, rfl⟩ (by rw [Heap.size_push, hz]) fun b o x => Heap.get?_push_of_some _ (Heap.get?_push_of_some _ x)⟩
end
end PySem
namespace L2
open PySem PySem.Spec PyProof.Rows
/-- the tuple at a, its items in new pairs with their numbers -/
def IteT (K : PySem.W.Frag) (a : Addr) : It :=
  ⟨fun i H => ∃ (xs : List V) (x : V), SqT K H a xs ∧ xs[i]? = some x, fun i H v H' => ∃ T x, v = .ref T ∧ H T = none ∧ H' = upd H T (.tup [.int (i : Nat), x]) ∧ ∀ xs, SqT K H a xs → xs[i]? = some x, fun i H => ∃ xs : List V, SqT K H a xs ∧ xs.length ≤ i⟩
theorem turn_enumT {P : Program} {w : World} {K : PySem.W.Frag} {elts : List Expr} {kk : Nat} {tpos : Pos} (a e it : Addr) :
    Turn P w K (.Tuple elts kk tpos) (IteT K a) [e, it] e (fun i h => (∃ old, IsEnum h e it ((i : Nat) : Int) old) ∧ h.IsTupleIter it a i ∧ e ≠ it ∧ a ≠ it ∧ a ≠ e) where
  mem := by simp
  obj := fun i h st b hb => by
    obtain ⟨⟨old, he⟩, ⟨o, ho, hc, hd⟩, _⟩ := st
    have e' : b = e ∨ b = it := by simpa using hb
    rcases e' with z | z
    · rw [z]; exact ⟨_, he, fun v q => nomatch q⟩
    · rw [z]; exact ⟨o, ho, fun v q => by rw [hd] at q; cases q⟩
  keep := fun i h h' st k => let ⟨⟨old, he⟩, hi, hne⟩ := st; ⟨⟨old, k e (by simp) _ he⟩, hi.at fun o q => k it (by simp) o q, hne⟩
  item := by
    intro X hP hw hK hc i pins s σ H E I hf st hg
    subst hP hw hK
    obtain ⟨⟨old, he⟩, hit, hne, hai, hae⟩ := st
    obtain ⟨xs, x, hq, hx⟩ := hg
    obtain ⟨its, rv, p, hz⟩ := I.tuple hq
    obtain ⟨u, hu, ru⟩ := rv.get hx
    have hel : e < s.heap.objs.size := Heap.lt_size he
    have hil : it < s.heap.objs.size := by obtain ⟨_, q, _⟩ := hit; exact Heap.lt_size q
    have hpT : s.heap.IsTuple a its.toArray := p
    have hl := rv.length
    have hlt : i < its.toArray.size := by
      rw [List.size_toArray]
      exact (List.getElem?_eq_some_iff.mp hu).1
    refine wpAny_pyNext_enum_itemD (Draws.tuple (prog := X.prog) (w := X.w) (A := X.A.in1) (I.ok.hd hc) it a hai its.toArray) he ⟨hit, hpT⟩ hlt hne (by simp only [List.mem_cons, List.not_mem_nil, or_false, not_or]; exact ⟨hne, Ne.symm hae⟩) fun x' h' tk hx' ho hit' hT hsz hk => ?_
    have ex : x' = u := by
      have : some x' = some u := by rw [← hx', List.getElem?_toArray]; exact hu
      exact Option.some.inj this
    subst ex
    refine ⟨_, rfl, wpAny_letOwnedTupleGo_enum (s := { s with heap := h', toks := tk + 1 }) ho fun h'' he' sb => ?_⟩
    have hT2 : h''.get? s.heap.objs.size = some { cls := .type "tuple", data := .seq #[.int i tk, x'] } := (sb.2 _ (Nat.ne_of_gt hel)).trans hT
    have new : ObjOk X.prog X.w (upd H s.heap.objs.size (.tup [.int (i : Nat), x])) h'' s.heap.objs.size (.tup [.int (i : Nat), x]) :=
      ⟨by show 2 ≤ sizeLine; decide, [.int i tk, x'], .cons ⟨_, rfl⟩ (.cons ru .nil), ⟨_, hT2, rfl, _, rfl⟩⟩
    have I1 : Inv X pins σ (upd H s.heap.objs.size (.tup [.int (i : Nat), x])) { s with heap := h'', toks := tk + 1 } :=
      I.turnedNew (ch := [e, it]) (fun b ob hb q => (sb.2 b (fun z => hb (by simp [z]))).trans (hk b ob (fun z => hb (by simp [z])) (fun z => hb (by simp [z])) q)) hf (Nat.le_refl _) new
    refine ⟨.ref s.heap.objs.size, _, I1, rfl, ⟨_, x, rfl, I.hok.fresh (Nat.le_refl _), rfl, fun ys hy => by rw [I.tuple_inj hy hq]; exact hx⟩, ⟨⟨x', ?_⟩, hit'.1.at fun o q => (sb.2 it (Ne.symm hne)).trans q, hne, hai, hae⟩, fun b hb => ?_⟩
    · have e1 : ((i + 1 : Nat) : Int) = (i : Int) + 1 := by omega
      rw [e1]; exact he'
    · have hb' : b < s.heap.objs.size := by
        have e' : b = e ∨ b = it := by simpa using hb
        rcases e' with z | z
        · rw [z]; exact hel
        · rw [z]; exact hil
      rw [upd_ne (Nat.ne_of_lt hb')]
      exact (hf b hb).1
  done := by
    intro X hP hw hK hc i pins s σ H E I hf st hg
    subst hP hw hK
    obtain ⟨⟨old, he⟩, hit, hne, hai, hae⟩ := st
    obtain ⟨xs, hq, hx⟩ := hg
    obtain ⟨its, rv, p, hz⟩ := I.tuple hq
    obtain ⟨f0, f1, f2, f3, f4, f5⟩ := hf it (by simp)
    have hl := rv.length
    have hpT : s.heap.IsTuple a its.toArray := p
    -- the end comes at the tuple's length
    unfold pyNext
    have hT : s.TypeIs (.ref e) "enumerate" := ⟨_, he, rfl⟩
    refine wpAny_bind (wpAny_attempt (wpAny_callSpecial?_slot (name := Str.ofString "__next__") hT F.slot_enumerate_next
      (wpAny_call_entry F.slot_enumerate_next hT F.entry_enumerate_next ?_ (F.args_enumerate_next_1 _))))
    show wpAny _ _ (field (.ref e) 2 >>= _) _ _ _
    refine wpAny_bind (wpAny_field he rfl (x := .ref it) rfl ?_)
    refine wpAny_bind (wpAny_nextOf_tuple_end (I.ok.hd hc) hit hpT (by simp; omega) fun h' x he' hx' => ?_)
    obtain ⟨o, ho, hc'⟩ := hx'
    refine wpAny_bind (wpAny_isInstance (T := "StopIteration") (b := true) ⟨o, ho, hc'⟩ isSubtype_stop ?_)
    exact wpAny_pure ⟨rfl, I.turned (t' := s.toks) (fun b o hb q => he' b o hb q) f0 f1 f3 f4 f5⟩
  self := fun A i s Q E st h => let ⟨⟨_, he⟩, _⟩ := st; wpAny_pyIter_enum he h
def iEnumT (K : PySem.W.Frag) (ta : TA) : TI := fun σ H R => ta σ H fun vs H1 => ∃ a xs, vs = [.ref a] ∧ SqT K H1 a xs ∧ R (IteT K a) H1
/-- of a list or of a tuple -/
def iEnumA (K : PySem.W.Frag) (ta : TA) : TI := fun σ H R => ta σ H fun vs H1 => ∃ a xs, vs = [.ref a] ∧ ((SqT K H1 a xs ∧ R (IteT K a) H1) ∨ (SqL K H1 a xs ∧ R (Ite K a) H1))
theorem pi_enumA {X : Cx} {e : Expr} {ta : TA} {p pos tpos : Pos} {elts : List Expr} {kk : Nat} (hg : Gl X "enumerate") (hm : X.mg "enumerate" = none) (ha : PA X [e] ta) (hs : starEach [e] X.env = [(false, eval e X.env)] := by rfl) :
    PI X (.Tuple elts kk tpos) (.Call (.Name "enumerate" p) [e] [] pos) (iEnumA X.K ta) := by
  refine ⟨fun pins s σ H R I h => ?_⟩
  refine Call_ (ld_blt I hg hm boot_enumerate (PyProof.Rows.callWith_type1 (thn (ha.run pos pins s σ H _ I h) fun us s1 ⟨vs, H1, I1, r1, q1⟩ => ?_) hs rfl))
  obtain ⟨a, xs, ex, hq⟩ := q1
  subst ex
  cases r1 with
  | cons r rr =>
    cases rr
    cases r
    rcases hq with ⟨hq, q⟩ | ⟨hq, q⟩
    · obtain ⟨its, rv, p', hz⟩ := I1.tuple hq
      have hal : a < s1.heap.objs.size := by obtain ⟨o, ho, _⟩ := p'; exact Heap.lt_size ho
      refine itx_call_enumerate_tuple (show s1.heap.IsTuple a its.toArray from p') fun h' he hit hsz hk => wpAny_pyIter_enum he ?_
      have I2 : Inv X pins σ H1 { s1 with heap := h' } := I1.kept (t' := s1.toks) hk
      refine ⟨s1.heap.objs.size + 1, [s1.heap.objs.size + 1, s1.heap.objs.size], _, _, H1, rfl, I2, turn_enumT a (s1.heap.objs.size + 1) s1.heap.objs.size, ⟨⟨.none, he⟩, hit, Nat.succ_ne_self _, Nat.ne_of_lt hal, Nat.ne_of_lt (Nat.lt_succ_of_lt hal)⟩, fun b hb => ?_, q⟩
      have e' : b = s1.heap.objs.size + 1 ∨ b = s1.heap.objs.size := by simpa using hb
      have hle : s1.heap.objs.size ≤ b := by
        rcases e' with z | z
        · rw [z]; exact Nat.le_add_right _ _
        · rw [z]; exact Nat.le_refl _
      exact I1.fpOk hle (I1.hok.fresh hle)
    · obtain ⟨its, rv, p', hz⟩ := I1.list hq
      refine call_enumerate_list p'.isList fun h' he hit hsz hk => wpAny_pyIter_enum he ?_
      have I2 : Inv X pins σ H1 { s1 with heap := h' } := I1.kept (t' := s1.toks) hk
      refine ⟨s1.heap.objs.size + 1, [s1.heap.objs.size + 1, s1.heap.objs.size], _, _, H1, rfl, I2, turn_enum a (s1.heap.objs.size + 1) s1.heap.objs.size, ⟨⟨.none, he⟩, hit, Nat.succ_ne_self _⟩, fun b hb => ?_, q⟩
      have e' : b = s1.heap.objs.size + 1 ∨ b = s1.heap.objs.size := by simpa using hb
      have hle : s1.heap.objs.size ≤ b := by
        rcases e' with z | z
        · rw [z]; exact Nat.le_add_right _ _
        · rw [z]; exact Nat.le_refl _
      exact I1.fpOk hle (I1.hok.fresh hle)
end L2
end

section
set_option autoImplicit false
set_option Elab.async false
set_option linter.all false
set_option maxRecDepth 100000
set_option maxHeartbeats 1000000
/-! Snd8: names, displays, argument lists, slices; what loops walk. -/
namespace Snd
open PySem PySem.Spec PyProof.Rows L2
open Mini (D Sl T)
section
variable {X : Cx} {fad : Nat → Addr} {H H' H0 H1 : Hp} {Av : Addr → Prop} {ρ ρ' : List Addr} {st st' : Mini.St} {env : Mini.Env} {σ : L2.St}
/-! ### names and constants -/
theorem slotV_some {o : Option Sl} {d : D} (h : Mini.slotV o = some d) : o = some (.sh d) := by
  cases o with
  | none => simp [Mini.slotV] at h
  | some s => cases s <;> simp [Mini.slotV] at h; subst h; rfl
theorem slotB_some {o : Option Sl} {d : D} (h : Mini.slotB o = some d) : o = some (.sh d) ∨ o = some (.ow d) := by
  cases o with
  | none => simp [Mini.slotB] at h
  | some s =>
    cases s <;> simp [Mini.slotB] at h
    · subst h; exact .inl rfl
    · subst h; exact .inr rfl
theorem pe_varV {i : Nat} {x : Str} {pos : Pos} (hN : X.N[i]? = some x) (hv : Vis X.env.scope x) (hd : (x == ("__debug__" : Str)) = false) (hcd : (x == ("__classdict__" : Str)) = false) :
    PE X (.Name x pos) (tF X.K fad .val fun env st => (Mini.slotV env[i]?).map (·, st)) := by
  refine (pe_var hN hv hd hcd).imp fun σ H Q h => ?_
  obtain ⟨Av, ρ, env, st, d, st', ev, e, q⟩ := h
  obtain ⟨d', e1, e2⟩ := Option.map_eq_some_iff.mp e
  cases e2
  obtain ⟨v, e3, r⟩ := ev.sh i d (slotV_some e1)
  exact ⟨v, e3, q ρ H v Ext.refl ev.sr r⟩
theorem pe_varB {i : Nat} {x : Str} {pos : Pos} (hN : X.N[i]? = some x) (hv : Vis X.env.scope x) (hd : (x == ("__debug__" : Str)) = false) (hcd : (x == ("__classdict__" : Str)) = false) :
    PE X (.Name x pos) (tF X.K fad .bor fun env st => (Mini.slotB env[i]?).map (·, st)) := by
  refine (pe_var hN hv hd hcd).imp fun σ H Q h => ?_
  obtain ⟨Av, ρ, env, st, d, st', ev, e, q⟩ := h
  obtain ⟨d', e1, e2⟩ := Option.map_eq_some_iff.mp e
  cases e2
  rcases slotB_some e1 with e1 | e1
  · obtain ⟨v, e3, r⟩ := ev.sh i d e1
    exact ⟨v, e3, q ρ H v Ext.refl ev.sr (.of r)⟩
  · obtain ⟨v, e3, r⟩ := ev.ow i d e1
    exact ⟨v, e3, q ρ H v Ext.refl ev.sr r⟩
/-- an expression that is one value -/
theorem pe_cstF {e : Expr} {v : V} {d : D} {kd : Kd} (h : PE X e (tC v)) (hr : ∀ (H : Hp) (Bad : Addr → Prop) (ρ : List Addr), Rep X.K fad H Bad ρ d v) (hd : Mini.ownable d = false) : PE X e (tF X.K fad kd fun _ st => some (d, st)) := by
  refine h.imp fun σ H Q h => ?_
  obtain ⟨Av, ρ, env, st, d', st', ev, e, q⟩ := h
  cases e
  exact q ρ H v Ext.refl ev.sr (atomPost (hr H _ ρ) hd)

/-! ### argument lists -/
theorem noStar {e : Expr} {es : List Expr} {env : Env} (h : ∀ a p, e ≠ .Starred a p) : starEach (e :: es) env = (false, eval e env) :: starEach es env := by
  cases e <;> first | rfl | (exact absurd rfl (h _ _))
theorem noStars {env : Env} : ∀ {es : List Expr}, (∀ e ∈ es, ∀ a p, e ≠ .Starred a p) → (starEach es env).map (·.1) = es.map fun _ => false
  | [], _ => rfl
  | e :: es, h => by
    rw [noStar (h e (List.mem_cons_self ..)), List.map_cons, List.map_cons, noStars fun x hx => h x (List.mem_cons_of_mem _ hx)]
theorem backTo_fst (pos : Pos) : ∀ l : List (Bool × Sem Value), (backTo pos l).map (·.1) = l.map (·.1)
  | [] => rfl
  | [_] => rfl
  | a :: b :: r => by
    show _ = _
    simp only [backTo, List.map_cons, List.map_map]
    first | rfl | simp
theorem noneStarred {env : Env} {pos : Pos} {es : List Expr} (h : ∀ e ∈ es, ∀ a p, e ≠ .Starred a p) : (backTo pos (starEach es env)).any (·.1) = false := by
  have e1 : (backTo pos (starEach es env)).map (·.1) = es.map fun _ => false := (backTo_fst pos _).trans (noStars h)
  rw [List.any_eq_false]
  intro x hx
  have : x.1 ∈ (backTo pos (starEach es env)).map (·.1) := List.mem_map_of_mem hx
  rw [e1] at this
  obtain ⟨_, _, e2⟩ := List.mem_map.mp this
  rw [← e2]
  simp
theorem pa_nilF (bw : Bool) : PA X [] (tFL X.K fad bw fun _ st => some ([], st)) := by
  refine pa_nil.imp fun σ H Q h => ?_
  obtain ⟨Av, ρ, env, st, ds, st', ev, e, q⟩ := h
  cases e
  exact q ρ H [] Ext.refl ev.sr (by cases bw <;> exact .nil)
theorem pa_consF {e : Expr} {es : List Expr} {bw : Bool} {fa : EvF} {fr : Mini.Env → Mini.St → Option (List D × Mini.St)} (ha : PE X e (tF X.K fad (if bw = true then .bor else .val) fa)) (hr : PA X es (tFL X.K fad bw fr)) (hs : ∀ a p, e ≠ .Starred a p) :
    PA X (e :: es) (tFL X.K fad bw fun env st => (fa env st).bind fun (x, s1) => (fr env s1).bind fun (xs, s2) => some (x :: xs, s2)) := by
  refine (pa_cons ha hr (noStar hs)).imp fun σ H Q h => ?_
  obtain ⟨Av, ρ, env, st, ds, st', ev, e, q⟩ := h
  obtain ⟨⟨x, s1⟩, e1, e⟩ := Option.bind_eq_some_iff.mp e
  obtain ⟨⟨xs, s2⟩, e2, e⟩ := Option.bind_eq_some_iff.mp e
  cases e
  refine ⟨Av, ρ, env, st, x, s1, ev, e1, fun ρ1 H1 v x1 r1 p1 => ?_⟩
  refine ⟨Av, ρ1, env, s1, xs, st', ev.ext x1 r1, e2, fun ρ2 H2 vs x2 r2 p2 => q ρ2 H2 (v :: vs) (ev.sr.trans r1 x1 x2) r2 ?_⟩
  cases bw with
  | true => exact .cons (RepW.ext p1 r1 x2) p2
  | false => exact .cons (Rep.ext p1 r1 x2) p2

/-! ### displays -/
theorem pe_tupF {es : List Expr} {k : Nat} {pos : Pos} {f : Mini.Env → Mini.St → Option (List D × Mini.St)} {kd : Kd} (h : PA X es (tFL X.K fad false f)) :
    PE X (.Tuple es k pos) (tF X.K fad kd fun env st => (f env st).bind fun (xs, s1) => if xs.length ≤ Mini.LIM then some (.tup xs, s1) else none) := by
  refine (pe_tup h).imp fun σ H Q h => ?_
  obtain ⟨Av, ρ, env, st, d, st', ev, e, q⟩ := h
  obtain ⟨⟨xs, s1⟩, e1, e⟩ := Option.bind_eq_some_iff.mp e
  simp only at e
  split at e <;> cases e
  rename_i hz
  refine ⟨Av, ρ, env, st, xs, st', ev, e1, fun ρ1 H1 vs x1 r1 p1 => ⟨by rw [← RepL.length p1]; exact hz, fun p hp => ?_⟩⟩
  exact q ρ1 _ _ (ev.sr.trans r1 x1 (Ext.new hp)) (r1.new hp) (atomPost (r1.newT hp p1) rfl)
theorem pe_lstF {es : List Expr} {pos : Pos} {f : Mini.Env → Mini.St → Option (List D × Mini.St)} {kd : Kd} (h : PA X es (tFL X.K fad false f)) :
    PE X (.List es pos) (tF X.K fad kd fun env st => (f env st).bind fun (xs, s1) => if xs.length ≤ Mini.LIM then some (.lst xs, s1) else none) := by
  refine (pe_lst h).imp fun σ H Q h => ?_
  obtain ⟨Av, ρ, env, st, d, st', ev, e, q⟩ := h
  obtain ⟨⟨xs, s1⟩, e1, e⟩ := Option.bind_eq_some_iff.mp e
  simp only at e
  split at e <;> cases e
  rename_i hz
  refine ⟨Av, ρ, env, st, xs, st', ev, e1, fun ρ1 H1 vs x1 r1 p1 => ⟨by rw [← RepL.length p1]; exact hz, fun p hp => ?_⟩⟩
  refine q ρ1 _ _ (ev.sr.trans r1 x1 (Ext.new hp)) (r1.new hp) (Post.any ?_)
  exact PostN.earlier (d := .lst xs) (r1.newL hp p1) (ev.sr.kept x1 r1)

/-! ### slices -/
theorem tPart_F {fa : EvF} {Q : Option Int → Hp → Prop} {d : D} {o : Option Int} (ev : EV X.K fad Av ρ H env σ st) (e : fa env st = some (d, st')) (ho : partOf d = some o) (hn : d ≠ .non)
    (q : ∀ ρ' H', Ext ρ ρ' H H' → SR X.K fad Av ρ' H' st' → Q o H') : tPart (tF X.K fad .bor fa) σ H Q := by
  refine ⟨Av, ρ, env, st, d, st', ev, e, fun ρ1 H1 v x1 r1 p1 => ?_⟩
  cases d <;> simp [partOf] at ho
  · exact absurd rfl hn
  · subst ho
    exact ⟨_, RepW.int_inv p1, q ρ1 H1 x1 r1⟩
/-- a bound: left out, or an int -/
structure Bnd (X : Cx) (fad : Nat → Addr) (o : Option Expr) (t : TO) (f : EvF) : Prop where
  po : PO X o t
  run : ∀ {Av : Addr → Prop} {ρ : List Addr} {H : Hp} {env : Mini.Env} {σ : L2.St} {st st' : Mini.St} {d : D} {i : Option Int} {Q : Option Int → Hp → Prop}, EV X.K fad Av ρ H env σ st → f env st = some (d, st') → partOf d = some i →
    (∀ ρ' H', Ext ρ ρ' H H' → SR X.K fad Av ρ' H' st' → Q i H') → t σ H Q
theorem bnd_none : Bnd X fad none tNoPart (fun _ st => some (.non, st)) := ⟨po_none, fun {Av ρ H env σ st st' d i Q} ev e ho q => by
  cases e
  cases ho
  exact q ρ H Ext.refl ev.sr⟩
theorem bnd_some {e : Expr} {f : EvF} (h : PE X e (tF X.K fad .bor f)) (hn : ∀ env st st', f env st ≠ some (.non, st')) : Bnd X fad (some e) (tPart (tF X.K fad .bor f)) f := ⟨po_some h, fun {Av ρ H env σ st st' d i Q} ev e ho q =>
  tPart_F ev e ho (fun z => by subst z; exact hn _ _ _ e) q⟩
theorem pe_slcF {e : Expr} {lo hi : Option Expr} {p2 pos : Pos} {fa fl fh : EvF} {tl th : TO} {kd : Kd} (he : PE X e (tF X.K fad .bor fa)) (hl : Bnd X fad lo tl fl) (hh : Bnd X fad hi th fh) :
    PE X (.Subscript e (.Slice lo hi none p2) pos) (tF X.K fad kd fun env st => (fa env st).bind fun (x, s1) => (fl env s1).bind fun (y, s2) => (fh env s2).bind fun (z, s3) => (Mini.slcD x y z).map (·, s3)) := by
  refine (pe_slice (sl_V (fad := fad)) he hl.po hh.po).imp fun σ H Q h => ?_
  obtain ⟨Av, ρ, env, st, d, st', ev, e, q⟩ := h
  obtain ⟨⟨x, s1⟩, e1, e⟩ := Option.bind_eq_some_iff.mp e
  obtain ⟨⟨y, s2⟩, e2, e⟩ := Option.bind_eq_some_iff.mp e
  obtain ⟨⟨z, s3⟩, e3, e⟩ := Option.bind_eq_some_iff.mp e
  obtain ⟨d', e4, e5⟩ := Option.map_eq_some_iff.mp e
  cases e5
  have parts : ∃ i j, partOf y = some i ∧ partOf z = some j := by
    unfold Mini.slcD at e4
    split at e4 <;> first | (cases e4; done) | skip
    all_goals
      simp only [Option.bind_eq_some_iff] at e4
      obtain ⟨a, ea, b, eb, _⟩ := e4
      obtain ⟨i, hi⟩ := clip_part ea
      obtain ⟨j, hj⟩ := clip_part eb
      exact ⟨i, j, hi, hj⟩
  obtain ⟨i, j, hi', hj'⟩ := parts
  refine ⟨Av, ρ, env, st, x, s1, ev, e1, fun ρ1 H1 v x1 r1 p1 => ?_⟩
  have ev1 := ev.ext x1 r1
  refine hl.run ev1 e2 hi' fun ρ2 H2 x2 r2 => ?_
  have ev2 := ev1.ext x2 r2
  have x12 := ev.sr.trans r1 x1 x2
  refine hh.run ev2 e3 hj' fun ρ3 H3 x3 r3 => ?_
  have x13 := ev.sr.trans r2 x12 x3
  refine ⟨Av, ρ3, st', x, y, z, d, r3, RepW.ext (RepW.ext p1 r1 x2) r2 x3, hi', hj', e4, fun v' H4 x4 r4 p4 => ?_⟩
  exact q ρ3 H4 v' (ev.sr.trans r3 x13 x4.ext) r4 (Post.any (PostN.earlier p4 (ev.sr.kept x13 r3)))

/-! ### what a loop walks -/
/-- J walks xs wherever L holds -/
structure Src (K : PySem.W.Frag) (fad : Nat → Addr) (J : It) (xs : List D) (L : List Addr → Hp → (Addr → Prop) → Prop) : Prop where
  go : ∀ ρ H Bad, L ρ H Bad → ∀ i, i < xs.length → J.go i H
  stop : ∀ ρ H Bad, L ρ H Bad → ∀ i, xs.length ≤ i → J.stop i H
  yld : ∀ ρ H Bad, L ρ H Bad → ∀ i x H', i < xs.length → J.yld i H x H' → ∃ d, xs[i]? = some d ∧ ((H' = H ∧ Rep K fad H Bad ρ d x) ∨ ∃ p vs ds, H p = none ∧ H' = upd H p (.tup vs) ∧ x = .ref p ∧ d = .tup ds ∧ RepL K fad H Bad ρ ds vs)
/-- what stays through a comprehension, through a loop's body -/
abbrev LC (fad : Nat → Addr) (Av : Addr → Prop) (ρ0 : List Addr) (H0 : Hp) : List Addr → Hp → (Addr → Prop) → Prop := fun ρ H Bad => Ext ρ0 ρ H0 H ∧ ∀ a, Bad a → Bd Av ρ a ∨ H0 a = none
abbrev LF (K : PySem.W.Frag) (Av : Addr → Prop) (ρ0 : List Addr) (H0 : Hp) : List Addr → Hp → (Addr → Prop) → Prop := fun ρ H Bad => Gr K (Bd Av ρ0) Bad ρ0 ρ H0 H
/-- the reading of what a loop walks: bw as in a comprehension -/
def tFI (K : PySem.W.Frag) (fad : Nat → Addr) (bw : Bool) (f : EvF) : TI := fun σ H R => ∃ (Av : Addr → Prop) (ρ : List Addr) (env : Mini.Env) (st : Mini.St) (d : D) (xs : List D) (st' : Mini.St), EV K fad Av ρ H env σ st ∧ f env st = some (d, st') ∧ Mini.seqD d = some xs ∧
  ∀ ρ' H' J, Ext ρ ρ' H H' → SR K fad Av ρ' H' st' → Src K fad J xs (if bw = true then LC fad Av ρ' H' else LF K Av ρ' H') → R J H'
theorem L2PI_imp {tg iter : Expr} {t t' : TI} (h : PI X tg iter t) (i : ∀ σ H R, t' σ H R → t σ H R) : PI X tg iter t' := ⟨fun pins s σ H R I hw => h.run pins s σ H R I (i _ _ _ hw)⟩
theorem Ext.grB {Bad : Addr → Prop} (e : Ext ρ ρ' H H') (sr : SR X.K fad Av ρ H st) (hb : ∀ a, Bad a → Bd Av ρ' a ∨ H a = none) : Gr X.K (Bd Av ρ) Bad ρ ρ' H H' := by
  have g := e.gr sr
  refine ⟨g.tup, g.frz, fun a o ea n => ⟨(g.keep a o ea n).1, fun q => ?_⟩, g.pre⟩
  rcases hb a q with q | q
  · exact (g.keep a o ea n).2 q
  · rw [ea] at q; cases q
/-- both kinds of staying give Gr -/
theorem stayGr {bw : Bool} {Bad : Addr → Prop} {ρ2 : List Addr} {H2 : Hp} (sr : SR X.K fad Av ρ H st) (h : (if bw = true then LC fad Av ρ H else LF X.K Av ρ H) ρ2 H2 Bad) : Gr X.K (Bd Av ρ) Bad ρ ρ2 H H2 := by
  cases bw with
  | true =>
    obtain ⟨x, hb⟩ := h
    exact x.grB sr hb
  | false => exact h
theorem src_tup {a : Addr} {xs : List D} {vs : List V} {bw : Bool} (sr : SR X.K fad Av ρ H st) (ha : SqT X.K H a vs) (ra : RepL X.K fad H (Bd Av ρ) ρ xs vs) : Src X.K fad (Itt X.K a) xs (if bw = true then LC fad Av ρ H else LF X.K Av ρ H) := by
  have at_ : ∀ ρ2 H2 Bad, (if bw = true then LC fad Av ρ H else LF X.K Av ρ H) ρ2 H2 Bad → SqT X.K H2 a vs ∧ RepL X.K fad H2 Bad ρ2 xs vs := fun ρ2 H2 Bad h => ⟨(stayGr sr h).sqT ha, RepL.gr (stayGr sr h) _ _ ra⟩
  refine ⟨fun ρ2 H2 Bad h i hi => ?_, fun ρ2 H2 Bad h i hi => ?_, fun ρ2 H2 Bad h i x H' hi y => ?_⟩
  · obtain ⟨q, r⟩ := at_ _ _ _ h
    have hi' : i < vs.length := by rw [← r.length]; exact hi
    exact ⟨vs, vs[i], q, by simp [hi']⟩
  · obtain ⟨q, r⟩ := at_ _ _ _ h
    exact ⟨vs, q, by rw [← r.length]; exact hi⟩
  · obtain ⟨q, r⟩ := at_ _ _ _ h
    obtain ⟨e, y⟩ := y
    obtain ⟨d, hd, rd⟩ := r.getV (y vs q)
    exact ⟨d, hd, .inl ⟨e, rd⟩⟩
theorem src_lst {a : Addr} {xs : List D} {vs : List V} {L : List Addr → Hp → (Addr → Prop) → Prop} (h : ∀ ρ2 H2 Bad, L ρ2 H2 Bad → Rd H2 a (.lst vs) ∧ RepL X.K fad H2 Bad ρ2 xs vs) : Src X.K fad (Itl X.K a) xs L := by
  refine ⟨fun ρ2 H2 Bad hl i hi => ?_, fun ρ2 H2 Bad hl i hi => ?_, fun ρ2 H2 Bad hl i x H' hi y => ?_⟩
  · obtain ⟨q, r⟩ := h _ _ _ hl
    have hi' : i < vs.length := by rw [← r.length]; exact hi
    exact ⟨vs, vs[i], .inl q, by simp [hi']⟩
  · obtain ⟨q, r⟩ := h _ _ _ hl
    exact ⟨vs, .inl q, by rw [← r.length]; exact hi⟩
  · obtain ⟨q, r⟩ := h _ _ _ hl
    obtain ⟨e, y⟩ := y
    obtain ⟨d, hd, rd⟩ := r.getV (y vs (.inl q))
    exact ⟨d, hd, .inl ⟨e, rd⟩⟩
/-- a list or a tuple -/
theorem pi_seq {tg l : Expr} {tl : TE} (hl : PE X l tl) : PI X tg l (fun σ H R => tl σ H fun x H1 => ∃ a, x = .ref a ∧ (((∃ xs, SqL X.K H1 a xs) ∧ R (Itl X.K a) H1) ∨ ((∃ xs, SqT X.K H1 a xs) ∧ R (Itt X.K a) H1))) := by
  refine ⟨fun pins s σ H R I h => ?_⟩
  refine thn (hl.run pins s σ H _ I h) fun v s1 ⟨x, H1, I1, r1, q1⟩ => ?_
  obtain ⟨a, e, q1⟩ := q1
  subst e
  cases r1
  rcases q1 with ⟨⟨xs, hq⟩, q⟩ | ⟨⟨xs, hq⟩, q⟩
  · obtain ⟨its, rv, p, hz⟩ := I1.list hq
    refine wpAny_pyIter_list p.isList ?_
    refine ⟨s1.heap.objs.size, [s1.heap.objs.size], _, _, H1, rfl, I1.kept (t' := s1.toks) fun b o e => Heap.get?_push_of_some _ e, turn_list a _, ⟨_, Heap.get?_push_size _ rfl, rfl, rfl⟩, fun b hb => ?_, q⟩
    have e : b = s1.heap.objs.size := by simpa using hb
    subst e
    exact I1.fpOk (Nat.le_refl _) (I1.hok.fresh (Nat.le_refl _))
  · obtain ⟨its, rv, p, hz⟩ := I1.tuple hq
    refine wpAny_pyIter_tuple (show s1.heap.IsTuple a its.toArray from p) ?_
    refine ⟨s1.heap.objs.size, [s1.heap.objs.size], _, _, H1, rfl, I1.kept (t' := s1.toks) fun b o e => Heap.get?_push_of_some _ e, turn_tuple a _, ⟨_, Heap.get?_push_size _ rfl, rfl, rfl⟩, fun b hb => ?_, q⟩
    have e : b = s1.heap.objs.size := by simpa using hb
    subst e
    exact I1.fpOk (Nat.le_refl _) (I1.hok.fresh (Nat.le_refl _))
theorem pi_seqF {tg l : Expr} {bw : Bool} {f : EvF} (hl : PE X l (tF X.K fad (if bw = true then .bor else .val) f)) : PI X tg l (tFI X.K fad bw f) := by
  refine L2PI_imp (pi_seq hl) fun σ H R h => ?_
  obtain ⟨Av, ρ, env, st, d, xs, st', ev, e, e2, q⟩ := h
  refine ⟨Av, ρ, env, st, d, st', ev, e, fun ρ1 H1 v x1 r1 p1 => ?_⟩
  have w1 : RepW X.K fad H1 Av ρ1 d v := by
    cases bw with
    | true => exact p1
    | false => exact .of p1
  unfold Mini.seqD at e2
  split at e2 <;> cases e2
  · obtain ⟨a, vs, rfl, ha, ra⟩ := w1.tup_inv
    exact ⟨a, rfl, .inr ⟨⟨vs, .inl (.inl ha)⟩, q ρ1 H1 _ x1 r1 (src_tup r1 (.inl (.inl ha)) ra)⟩⟩
  · obtain ⟨a, vs, rfl, ha, ra⟩ := w1.lst_inv
    refine ⟨a, rfl, .inl ⟨⟨vs, .inl ha⟩, q ρ1 H1 _ x1 r1 (src_lst fun ρ2 H2 Bad h2 => ⟨?_, RepL.gr (stayGr r1 h2) _ _ ra⟩)⟩⟩
    cases bw with
    | true =>
      obtain ⟨x2, _⟩ := h2
      have na : a ∉ ρ1 := fun z => by
        obtain ⟨kvs, ek⟩ := r1.dK z
        rcases ha with ha | ⟨u, ha⟩ <;> (rw [ek] at ha; cases ha)
      rcases ha with ha | ⟨u, ha⟩
      · exact .inl (x2.keep _ _ ha na)
      · exact .inr ⟨u, x2.keep _ _ ha na⟩
    | false =>
      cases p1 with
      | lst h0 h1 h3 =>
        obtain ⟨y, z⟩ := Gr.rd (show Gr X.K (Bd Av ρ1) Bad ρ1 ρ2 H1 H2 from h2) ha h0
        exact y
  · obtain ⟨a, vs, rfl, ha, ra⟩ := w1.wt_inv
    exact ⟨a, rfl, .inr ⟨⟨vs, ha⟩, q ρ1 H1 _ x1 r1 (src_tup r1 ha ra)⟩⟩
/-- numbers in a row -/
theorem src_rng {lo : Int} {n : Nat} {L : List Addr → Hp → (Addr → Prop) → Prop} {xs : List D} (e : xs = (List.range n).map fun (k : Nat) => D.int (lo + k)) : Src X.K fad (Itr lo n) xs L := by
  have hl : xs.length = n := by rw [e, List.length_map, List.length_range]
  refine ⟨fun ρ2 H2 Bad h i hi => (by rw [hl] at hi; exact hi), fun ρ2 H2 Bad h i hi => (by rw [hl] at hi; exact hi), fun ρ2 H2 Bad h i x H' hi y => ?_⟩
  obtain ⟨e1, e2⟩ := y
  rw [hl] at hi
  refine ⟨.int (lo + i), ?_, .inl ⟨e1, ?_⟩⟩
  · rw [e, List.getElem?_map, List.getElem?_range hi]; rfl
  · rw [e2]; exact .int _
theorem pi_rng1F {tg a : Expr} {p pos : Pos} {bw : Bool} {f : EvF} (hg : Gl X "range") (hm : X.mg "range" = none) (ha : PE X a (tF X.K fad .bor f)) (hs : ∀ b p, a ≠ .Starred b p) :
    PI X tg (.Call (.Name "range" p) [a] [] pos) (tFI X.K fad bw fun env st => (f env st).bind fun (x, s1) => match x with
      | .int n => if -1000000 ≤ n ∧ n ≤ 1000000 then some (.lst ((List.range n.toNat).map fun (k : Nat) => D.int k), s1) else none
      | _ => none) := by
  refine L2PI_imp (pi_range1 hg hm (pa_cons ha pa_nil (noStar hs)) (noStar hs)) fun σ H R h => ?_
  obtain ⟨Av, ρ, env, st, d, xs, st', ev, e, e2, q⟩ := h
  obtain ⟨⟨x, s1⟩, e1, e⟩ := Option.bind_eq_some_iff.mp e
  simp only at e
  split at e <;> try cases e
  split at e <;> cases e
  rename_i hz
  cases e2
  refine ⟨Av, ρ, env, st, _, st', ev, e1, fun ρ1 H1 v x1 r1 p1 => ?_⟩
  refine ⟨_, by rw [RepW.int_inv p1], by omega, by omega, q ρ1 H1 _ x1 r1 (src_rng ?_)⟩
  simp
theorem pi_rng2F {tg a b : Expr} {p pos : Pos} {bw : Bool} {f g : EvF} (hg : Gl X "range") (hm : X.mg "range" = none) (ha : PE X a (tF X.K fad .bor f)) (hb : PE X b (tF X.K fad .bor g)) (hs : ∀ c p, a ≠ .Starred c p) (ht : ∀ c p, b ≠ .Starred c p) :
    PI X tg (.Call (.Name "range" p) [a, b] [] pos) (tFI X.K fad bw fun env st => (f env st).bind fun (x, s1) => (g env s1).bind fun (y, s2) => match x, y with
      | .int m, .int n => if (-1000000 ≤ m ∧ m ≤ 1000000) ∧ -1000000 ≤ n ∧ n ≤ 1000000 then some (.lst ((List.range (n - m).toNat).map fun (k : Nat) => D.int (m + k)), s2) else none
      | _, _ => none) := by
  refine L2PI_imp (pi_range2 hg hm (pa_cons ha (pa_cons hb pa_nil (noStar ht)) (noStar hs)) (by rw [noStar hs, noStar ht]; rfl) (noStar ht)) fun σ H R h => ?_
  obtain ⟨Av, ρ, env, st, d, xs, st', ev, e, e2, q⟩ := h
  obtain ⟨⟨x, s1⟩, e1, e⟩ := Option.bind_eq_some_iff.mp e
  obtain ⟨⟨y, s2⟩, e3, e⟩ := Option.bind_eq_some_iff.mp e
  simp only at e
  split at e <;> try cases e
  split at e <;> cases e
  rename_i hz
  cases e2
  refine ⟨Av, ρ, env, st, _, s1, ev, e1, fun ρ1 H1 v x1 r1 p1 => ?_⟩
  refine ⟨Av, ρ1, env, s1, _, st', ev.ext x1 r1, e3, fun ρ2 H2 w x2 r2 p2 => ?_⟩
  exact ⟨_, _, by rw [RepW.int_inv p1, RepW.int_inv p2], by omega, q ρ2 H2 _ (ev.sr.trans r1 x1 x2) r2 (src_rng rfl)⟩
end
end Snd
end

section
set_option autoImplicit false
set_option Elab.async false
set_option linter.all false
set_option maxRecDepth 100000
set_option maxHeartbeats 1000000
/-! Snd9: built-in functions by values. -/
namespace Snd
open PySem PySem.Spec PyProof.Rows L2
open Mini (D Sl T)
section
variable {fad : Nat → Addr} {H H' H0 : Hp} {Av Bad : Addr → Prop} {ρ ρ' : List Addr} {st st' : Mini.St} {X : Cx} {pins : List (Addr × Obj)} {σ : L2.St} {s : Shared}
theorem RepW.seq {K : PySem.W.Frag} {d : D} {x : V} {xs : List D} (w : RepW K fad H Av ρ d x) (e : Mini.seqD d = some xs) : ∃ a vs, x = .ref a ∧ (SqL K H a vs ∨ SqT K H a vs) ∧ RepL K fad H (Bd Av ρ) ρ xs vs := by
  unfold Mini.seqD at e
  split at e <;> cases e
  · obtain ⟨a, vs, rfl, ha, ra⟩ := w.tup_inv
    exact ⟨a, vs, rfl, .inr (.inl (.inl ha)), ra⟩
  · obtain ⟨a, vs, rfl, ha, ra⟩ := w.lst_inv
    exact ⟨a, vs, rfl, .inl (.inl ha), ra⟩
  · obtain ⟨a, vs, rfl, ha, ra⟩ := w.wt_inv
    exact ⟨a, vs, rfl, .inr ha, ra⟩
theorem call_lenV : CallR X (.builtin "len") (rBi X.K fad .len) := by
  intro pins s σ H vs us Q I r ⟨Av, ρ, st, ds, d, sr, w, e, q⟩
  unfold Mini.biD at e
  split at e <;> first | (cases e; done) | skip
  all_goals first | (rename_i h; cases h; done) | skip
  obtain ⟨n, e1, rfl⟩ := Option.map_eq_some_iff.mp e
  obtain ⟨x, rfl, wx⟩ := w.one
  have q' := q (.int n) H Grow.refl sr (.int n)
  unfold Mini.lenD at e1
  split at e1
  · split at e1 <;> cases e1
    rename_i hz
    obtain ⟨z, rfl, ez⟩ := wx.str_inv
    have hl : z.length = _ := (codes_length z).symm.trans (congrArg List.length ez)
    exact call_len_str pins s σ H _ us Q I r ⟨z, rfl, by rw [hl]; exact hz, by rw [hl]; exact q'⟩
  all_goals first | (cases e1; done) | skip
  all_goals
    cases e1
    obtain ⟨a, ws, rfl, ha, ra⟩ := RepW.seq wx rfl
    exact call_len_seq pins s σ H _ us Q I r ⟨a, ws, rfl, ha, by rw [← ra.length]; exact q'⟩
theorem call_intV : CallR X (.type "int") (rBi X.K fad .int) := by
  intro pins s σ H vs us Q I r ⟨Av, ρ, st, ds, d, sr, w, e, q⟩
  unfold Mini.biD at e
  split at e <;> first | (cases e; done) | skip
  all_goals first | (rename_i h; cases h; done) | skip
  · cases e
    obtain ⟨x, rfl, wx⟩ := w.one
    have := wx.int_inv
    subst this
    exact call_int1 pins s σ H _ us Q I r (.inl ⟨_, rfl, q _ H Grow.refl sr (.int _)⟩)
  · cases e
    obtain ⟨x, rfl, wx⟩ := w.one
    have := wx.bl_inv
    subst this
    exact call_int1 pins s σ H _ us Q I r (.inr ⟨_, rfl, q _ H Grow.refl sr (.int _)⟩)
theorem call_absV : CallR X (.builtin "abs") (rBi X.K fad .abs) := by
  intro pins s σ H vs us Q I r ⟨Av, ρ, st, ds, d, sr, w, e, q⟩
  unfold Mini.biD at e
  split at e <;> first | (cases e; done) | skip
  all_goals first | (rename_i h; cases h; done) | skip
  cases e
  obtain ⟨x, rfl, wx⟩ := w.one
  have := wx.int_inv
  subst this
  exact call_abs pins s σ H _ us Q I r ⟨_, rfl, q _ H Grow.refl sr (.int _)⟩
theorem call_max2V (hc : X.calm = true) : CallR X (.builtin "max") (rBi X.K fad .max2) := by
  intro pins s σ H vs us Q I r ⟨Av, ρ, st, ds, d, sr, w, e, q⟩
  unfold Mini.biD at e
  split at e <;> first | (cases e; done) | skip
  all_goals first | (rename_i h; cases h; done) | skip
  cases e
  obtain ⟨x, y, rfl, wx, wy⟩ := w.two
  have := wx.int_inv
  subst this
  have := wy.int_inv
  subst this
  exact call_max2 hc pins s σ H _ us Q I r ⟨_, _, rfl, q _ H Grow.refl sr (.int _)⟩
theorem call_min2V (hc : X.calm = true) : CallR X (.builtin "min") (rBi X.K fad .min2) := by
  intro pins s σ H vs us Q I r ⟨Av, ρ, st, ds, d, sr, w, e, q⟩
  unfold Mini.biD at e
  split at e <;> first | (cases e; done) | skip
  all_goals first | (rename_i h; cases h; done) | skip
  cases e
  obtain ⟨x, y, rfl, wx, wy⟩ := w.two
  have := wx.int_inv
  subst this
  have := wy.int_inv
  subst this
  exact call_min2 hc pins s σ H _ us Q I r ⟨_, _, rfl, q _ H Grow.refl sr (.int _)⟩
theorem call_tupleV : CallR X (.type "tuple") (rBi X.K fad .tuple) := by
  intro pins s σ H vs us Q I r ⟨Av, ρ, st, ds, d, sr, w, e, q⟩
  unfold Mini.biD at e
  split at e <;> first | (cases e; done) | skip
  all_goals first | (rename_i h; cases h; done) | skip
  · cases e
    obtain ⟨x, rfl, wx⟩ := w.one
    obtain ⟨a, ws, rfl, ha, ra⟩ := wx.tup_inv
    exact call_tuple_of pins s σ H _ us Q I r ⟨a, ws, rfl, .inr ⟨.inl (.inl ha), q _ H Grow.refl sr (.tup ha ra)⟩⟩
  · cases e
    obtain ⟨x, rfl, wx⟩ := w.one
    obtain ⟨a, ws, rfl, ha, ra⟩ := wx.lst_inv
    exact call_tuple_of pins s σ H _ us Q I r ⟨a, ws, rfl, .inl ⟨.inl ha, fun p hp => q _ _ (Grow.new hp) (sr.new hp) (sr.newT hp ra)⟩⟩
theorem call_listV : CallR X (.type "list") (rBi X.K fad .list) := by
  intro pins s σ H vs us Q I r ⟨Av, ρ, st, ds, d, sr, w, e, q⟩
  unfold Mini.biD at e
  split at e <;> first | (cases e; done) | skip
  all_goals first | (rename_i h; cases h; done) | skip
  all_goals
    cases e
    obtain ⟨x, rfl, wx⟩ := w.one
    obtain ⟨a, ws, rfl, ha, ra⟩ := RepW.seq wx rfl
    exact call_list_of pins s σ H _ us Q I r ⟨a, ws, rfl, ha, fun p hp => q _ _ (Grow.new hp) (sr.new hp) (sr.newL hp ra)⟩
theorem ints_vals {K : PySem.W.Frag} : ∀ {xs : List D} {vs : List V} {ns : List Int}, RepL K fad H Bad ρ xs vs → Mini.intsOf xs = some ns → vs = ns.map V.int
  | [], _, _, .nil, e => by cases e; rfl
  | d :: r, _, ns, .cons h t, e => by
    cases d <;> simp only [Mini.intsOf] at e <;> first | (cases e; done) | skip
    obtain ⟨ms, e1, rfl⟩ := Option.map_eq_some_iff.mp e
    cases h
    rw [ints_vals t e1]
    rfl
theorem bools_vals {K : PySem.W.Frag} : ∀ {xs : List D} {vs : List V} {ns : List Bool}, RepL K fad H Bad ρ xs vs → Mini.boolsOf xs = some ns → vs = ns.map V.bl
  | [], _, _, .nil, e => by cases e; rfl
  | d :: r, _, ns, .cons h t, e => by
    cases d <;> simp only [Mini.boolsOf] at e <;> first | (cases e; done) | skip
    obtain ⟨ms, e1, rfl⟩ := Option.map_eq_some_iff.mp e
    cases h
    rw [bools_vals t e1]
    rfl
theorem call_sumV (hc : X.calm = true) : CallR X (.builtin "sum") (rBi X.K fad .sum) := by
  intro pins s σ H vs us Q I r ⟨Av, ρ, st, ds, d, sr, w, e, q⟩
  unfold Mini.biD at e
  split at e <;> first | (cases e; done) | skip
  all_goals first | (rename_i h; cases h; done) | skip
  obtain ⟨ns, e1, rfl⟩ := Option.map_eq_some_iff.mp e
  obtain ⟨x, rfl, wx⟩ := w.one
  obtain ⟨a, ws, rfl, ha, ra⟩ := wx.lst_inv
  have ew := ints_vals ra e1
  subst ew
  exact cr_sum hc pins s σ H _ us Q I r ⟨a, ns, rfl, .inl ha, q _ H Grow.refl sr (.int _)⟩
theorem call_anyV (hc : X.calm = true) : CallR X (.builtin "any") (rBi X.K fad .any) := by
  intro pins s σ H vs us Q I r ⟨Av, ρ, st, ds, d, sr, w, e, q⟩
  unfold Mini.biD at e
  split at e <;> first | (cases e; done) | skip
  all_goals first | (rename_i h; cases h; done) | skip
  obtain ⟨ns, e1, rfl⟩ := Option.map_eq_some_iff.mp e
  obtain ⟨x, rfl, wx⟩ := w.one
  obtain ⟨a, ws, rfl, ha, ra⟩ := wx.lst_inv
  have ew := bools_vals ra e1
  subst ew
  exact cr_any hc pins s σ H _ us Q I r ⟨a, ns, rfl, .inl ha, q _ H Grow.refl sr (.bl _)⟩
theorem call_allV (hc : X.calm = true) : CallR X (.builtin "all") (rBi X.K fad .all) := by
  intro pins s σ H vs us Q I r ⟨Av, ρ, st, ds, d, sr, w, e, q⟩
  unfold Mini.biD at e
  split at e <;> first | (cases e; done) | skip
  all_goals first | (rename_i h; cases h; done) | skip
  obtain ⟨ns, e1, rfl⟩ := Option.map_eq_some_iff.mp e
  obtain ⟨x, rfl, wx⟩ := w.one
  obtain ⟨a, ws, rfl, ha, ra⟩ := wx.lst_inv
  have ew := bools_vals ra e1
  subst ew
  exact cr_all hc pins s σ H _ us Q I r ⟨a, ns, rfl, .inl ha, q _ H Grow.refl sr (.bl _)⟩
/-- a call of a built-in function, by the evaluator -/
theorem tBi_F {t : TA} {o : Mini.Bi} {kd : Kd} {fr : Mini.Env → Mini.St → Option (List D × Mini.St)} {Q : VK}
    (h : tF X.K fad kd (fun env st => (fr env st).bind fun (xs, s1) => (Mini.biD o xs).map (·, s1)) σ H Q) : tCB (rBi X.K fad o) (tFL X.K fad true fr) σ H Q := by
  obtain ⟨Av, ρ, env, st, d, st', ev, e, q⟩ := h
  obtain ⟨⟨xs, s1⟩, e1, e⟩ := Option.bind_eq_some_iff.mp e
  obtain ⟨d', e2, e3⟩ := Option.map_eq_some_iff.mp e
  cases e3
  refine ⟨Av, ρ, env, st, xs, st', ev, e1, fun ρ1 H1 vs x1 r1 p1 => ?_⟩
  exact ⟨Av, ρ1, st', xs, d, r1, p1, e2, fun v H2 x2 r2 p2 => q ρ1 H2 v (ev.sr.trans r1 x1 x2.ext) r2 (Post.any (PostN.earlier p2 (ev.sr.kept x1 r1)))⟩
end
end Snd
end

section
set_option autoImplicit false
set_option Elab.async false
set_option linter.all false
set_option maxRecDepth 100000
set_option maxHeartbeats 1000000
/-! Snd10: enumerate, zip, range as an argument, isinstance. -/
namespace Snd
open PySem PySem.Spec PyProof.Rows L2
open Mini (D Sl T)
section
variable {fad : Nat → Addr} {H H' H0 : Hp} {Av Bad : Addr → Prop} {ρ ρ' : List Addr} {st st' : Mini.St} {X : Cx} {pins : List (Addr × Obj)} {σ : L2.St} {s : Shared}
/-- how values are looked at inside a loop -/
abbrev Stay (K : PySem.W.Frag) (bw : Bool) (Av : Addr → Prop) (ρ : List Addr) (H : Hp) : List Addr → Hp → (Addr → Prop) → Prop := if bw = true then LC fad Av ρ H else LF K Av ρ H
abbrev kdOf (bw : Bool) : Kd := if bw = true then .bor else .val
theorem Post.ofB {K : PySem.W.Frag} {bw : Bool} {d : D} {v : V} (p : Post (kdOf bw) K fad H0 H Av ρ d v) : RepW K fad H Av ρ d v := by
  cases bw with
  | true => exact p
  | false => exact .of p
/-- what holds items now holds them as long as the loop goes -/
theorem seq_stay {bw : Bool} {d : D} {v : V} {xs : List D} (sr : SR X.K fad Av ρ H st) (p : Post (kdOf bw) X.K fad H0 H Av ρ d v) (e : Mini.seqD d = some xs) :
    ∃ a vs, v = .ref a ∧ vs.length = xs.length ∧ ((SqT X.K H a vs ∧ ∀ ρ2 H2 Bad, Stay (fad := fad) X.K bw Av ρ H ρ2 H2 Bad → SqT X.K H2 a vs ∧ RepL X.K fad H2 Bad ρ2 xs vs) ∨ (SqL X.K H a vs ∧ ∀ ρ2 H2 Bad, Stay (fad := fad) X.K bw Av ρ H ρ2 H2 Bad → SqL X.K H2 a vs ∧ RepL X.K fad H2 Bad ρ2 xs vs)) := by
  have w1 := Post.ofB p
  unfold Mini.seqD at e
  split at e <;> cases e
  · obtain ⟨a, vs, rfl, ha, ra⟩ := w1.tup_inv
    exact ⟨a, vs, rfl, ra.length.symm, .inl ⟨.inl (.inl ha), fun ρ2 H2 Bad h => ⟨(stayGr sr h).sqT (.inl (.inl ha)), RepL.gr (stayGr sr h) _ _ ra⟩⟩⟩
  · obtain ⟨a, vs, rfl, ha, ra⟩ := w1.lst_inv
    refine ⟨a, vs, rfl, ra.length.symm, .inr ⟨.inl ha, fun ρ2 H2 Bad h2 => ⟨.inl ?_, RepL.gr (stayGr sr h2) _ _ ra⟩⟩⟩
    cases bw with
    | true =>
      obtain ⟨x2, _⟩ := h2
      have na : a ∉ ρ := fun z => by
        obtain ⟨kvs, ek⟩ := sr.dK z
        rcases ha with ha | ⟨u, ha⟩ <;> (rw [ek] at ha; cases ha)
      rcases ha with ha | ⟨u, ha⟩
      · exact .inl (x2.keep _ _ ha na)
      · exact .inr ⟨u, x2.keep _ _ ha na⟩
    | false =>
      cases p with
      | lst h0 h1 h3 =>
        obtain ⟨y, z⟩ := Gr.rd (show Gr X.K (Bd Av ρ) Bad ρ ρ2 H H2 from h2) ha h0
        exact y
  · obtain ⟨a, vs, rfl, ha, ra⟩ := w1.wt_inv
    exact ⟨a, vs, rfl, ra.length.symm, .inl ⟨ha, fun ρ2 H2 Bad h => ⟨(stayGr sr h).sqT ha, RepL.gr (stayGr sr h) _ _ ra⟩⟩⟩
abbrev enumD (xs : List D) : List D := List.zipWith (fun (k : Nat) (x : D) => D.tup [.int k, x]) (List.range xs.length) xs
theorem enumD_at {xs : List D} {i : Nat} {d : D} (h : xs[i]? = some d) : (enumD xs)[i]? = some (.tup [.int i, d]) := by
  have hi : i < xs.length := (List.getElem?_eq_some_iff.mp h).1
  rw [List.getElem?_zipWith, h, List.getElem?_range hi]
theorem enumD_length (xs : List D) : (enumD xs).length = xs.length := by
  rw [List.length_zipWith, List.length_range, Nat.min_self]
theorem src_enumT {a : Addr} {xs : List D} {vs : List V} {L : List Addr → Hp → (Addr → Prop) → Prop} (h : ∀ ρ2 H2 Bad, L ρ2 H2 Bad → SqT X.K H2 a vs ∧ RepL X.K fad H2 Bad ρ2 xs vs) : Src X.K fad (IteT X.K a) (enumD xs) L := by
  refine ⟨fun ρ2 H2 Bad hl i hi => ?_, fun ρ2 H2 Bad hl i hi => ?_, fun ρ2 H2 Bad hl i x H' hi y => ?_⟩
  · obtain ⟨q, r⟩ := h _ _ _ hl
    rw [enumD_length] at hi
    have hi' : i < vs.length := by rw [← r.length]; exact hi
    exact ⟨vs, vs[i], q, by simp [hi']⟩
  · obtain ⟨q, r⟩ := h _ _ _ hl
    rw [enumD_length] at hi
    exact ⟨vs, q, by rw [← r.length]; exact hi⟩
  · obtain ⟨q, r⟩ := h _ _ _ hl
    obtain ⟨T, z, rfl, hT, rfl, hz⟩ := y
    obtain ⟨d, hd, rd⟩ := r.getV (hz vs q)
    exact ⟨_, enumD_at hd, .inr ⟨T, [.int i, z], [.int i, d], hT, rfl, rfl, rfl, .cons (.int _) (.cons rd .nil)⟩⟩
theorem src_enumL {a : Addr} {xs : List D} {vs : List V} {L : List Addr → Hp → (Addr → Prop) → Prop} (h : ∀ ρ2 H2 Bad, L ρ2 H2 Bad → SqL X.K H2 a vs ∧ RepL X.K fad H2 Bad ρ2 xs vs) : Src X.K fad (Ite X.K a) (enumD xs) L := by
  refine ⟨fun ρ2 H2 Bad hl i hi => ?_, fun ρ2 H2 Bad hl i hi => ?_, fun ρ2 H2 Bad hl i x H' hi y => ?_⟩
  · obtain ⟨q, r⟩ := h _ _ _ hl
    rw [enumD_length] at hi
    have hi' : i < vs.length := by rw [← r.length]; exact hi
    exact ⟨vs, vs[i], q, by simp [hi']⟩
  · obtain ⟨q, r⟩ := h _ _ _ hl
    rw [enumD_length] at hi
    exact ⟨vs, q, by rw [← r.length]; exact hi⟩
  · obtain ⟨q, r⟩ := h _ _ _ hl
    obtain ⟨T, z, rfl, hT, rfl, hz⟩ := y
    obtain ⟨d, hd, rd⟩ := r.getV (hz vs q)
    exact ⟨_, enumD_at hd, .inr ⟨T, [.int i, z], [.int i, d], hT, rfl, rfl, rfl, .cons (.int _) (.cons rd .nil)⟩⟩
theorem src_zipT {a b : Addr} {xs ys : List D} {vs ws : List V} {L : List Addr → Hp → (Addr → Prop) → Prop} (h : ∀ ρ2 H2 Bad, L ρ2 H2 Bad → SqT X.K H2 a vs ∧ RepL X.K fad H2 Bad ρ2 xs vs) (h' : ∀ ρ2 H2 Bad, L ρ2 H2 Bad → SqT X.K H2 b ws ∧ RepL X.K fad H2 Bad ρ2 ys ws) :
    Src X.K fad (RZ.ItzT X.K a b) (List.zipWith (fun x y => D.tup [x, y]) xs ys) L := by
  refine ⟨fun ρ2 H2 Bad hl i hi => ?_, fun ρ2 H2 Bad hl i hi => ?_, fun ρ2 H2 Bad hl i x H' hi y => ?_⟩
  · obtain ⟨q, r⟩ := h _ _ _ hl
    obtain ⟨q', r'⟩ := h' _ _ _ hl
    rw [List.length_zipWith] at hi
    have hi1 : i < vs.length := by rw [← r.length]; omega
    have hi2 : i < ws.length := by rw [← r'.length]; omega
    exact ⟨vs, ws, vs[i], ws[i], q, q', by simp [hi1], by simp [hi2]⟩
  · obtain ⟨q, r⟩ := h _ _ _ hl
    obtain ⟨q', r'⟩ := h' _ _ _ hl
    rw [List.length_zipWith] at hi
    exact ⟨vs, ws, q, q', by rw [← r.length, ← r'.length]; omega⟩
  · obtain ⟨q, r⟩ := h _ _ _ hl
    obtain ⟨q', r'⟩ := h' _ _ _ hl
    obtain ⟨T, z, z', rfl, hT, rfl, hz, hz'⟩ := y
    obtain ⟨d, hd, rd⟩ := r.getV (hz vs q)
    obtain ⟨d', hd', rd'⟩ := r'.getV (hz' ws q')
    refine ⟨.tup [d, d'], ?_, .inr ⟨T, [z, z'], [d, d'], hT, rfl, rfl, rfl, .cons rd (.cons rd' .nil)⟩⟩
    rw [List.getElem?_zipWith, hd, hd']
theorem pi_enmF {e : Expr} {p pos tpos : Pos} {elts : List Expr} {kk : Nat} {bw : Bool} {f : EvF} (hg : Gl X "enumerate") (hm : X.mg "enumerate" = none) (ha : PE X e (tF X.K fad (kdOf bw) f)) (hs : ∀ b p, e ≠ .Starred b p) :
    PI X (.Tuple elts kk tpos) (.Call (.Name "enumerate" p) [e] [] pos) (tFI X.K fad bw fun env st => (f env st).bind fun (x, s1) => match x with
      | .tup xs | .lst xs | .wt xs => some (.lst (List.zipWith (fun (k : Nat) (x : D) => D.tup [.int k, x]) (List.range xs.length) xs), s1)
      | _ => none) := by
  refine L2PI_imp (pi_enumA hg hm (pa_cons ha pa_nil (noStar hs)) (noStar hs)) fun σ H R h => ?_
  obtain ⟨Av, ρ, env, st, d, xs, st', ev, e, e2, q⟩ := h
  obtain ⟨⟨x, s1⟩, e1, e⟩ := Option.bind_eq_some_iff.mp e
  have key : ∃ ys, Mini.seqD x = some ys ∧ xs = enumD ys ∧ st' = s1 := by
    simp only at e
    split at e <;> cases e <;> (cases e2; exact ⟨_, rfl, rfl, rfl⟩)
  obtain ⟨ys, e4, rfl, rfl⟩ := key
  refine ⟨Av, ρ, env, st, x, st', ev, e1, fun ρ1 H1 v x1 r1 p1 => ?_⟩
  obtain ⟨a, vs, rfl, hl, hq⟩ := seq_stay r1 p1 e4
  refine ⟨a, vs, rfl, ?_⟩
  rcases hq with ⟨hq, k⟩ | ⟨hq, k⟩
  · exact .inl ⟨hq, q ρ1 H1 _ x1 r1 (src_enumT k)⟩
  · exact .inr ⟨hq, q ρ1 H1 _ x1 r1 (src_enumL k)⟩
theorem Post.ext {K : PySem.W.Frag} {H1 : Hp} {bw : Bool} {d : D} {v : V} (p : Post (kdOf bw) K fad H0 H Av ρ d v) (sr : SR K fad Av ρ H st) (x : Ext ρ ρ' H H') : Post (kdOf bw) K fad H1 H' Av ρ' d v := by
  cases bw with
  | true => exact RepW.ext p sr x
  | false => exact Rep.ext p sr x
theorem pi_zipF {e e2 : Expr} {p pos tpos : Pos} {elts : List Expr} {kk : Nat} {bw : Bool} {f g : EvF} (hg : Gl X "zip") (hm : X.mg "zip" = none) (ha : PE X e (tF X.K fad (kdOf bw) f)) (hb : PE X e2 (tF X.K fad (kdOf bw) g)) (hs : ∀ b p, e ≠ .Starred b p) (ht : ∀ b p, e2 ≠ .Starred b p) :
    PI X (.Tuple elts kk tpos) (.Call (.Name "zip" p) [e, e2] [] pos) (tFI X.K fad bw fun env st => (f env st).bind fun (x, s1) => (g env s1).bind fun (y, s2) => match x, y with
      | .tup xs, .tup ys => some (.lst (List.zipWith (fun x y => .tup [x, y]) xs ys), s2)
      | _, _ => none) := by
  refine L2PI_imp (RZ.pi_zipA hg hm (pa_cons ha (pa_cons hb pa_nil (noStar ht)) (noStar hs)) (noStar hs) (by rw [noStar ht]; rfl)) fun σ H R h => ?_
  obtain ⟨Av, ρ, env, st, d, xs, st', ev, e, e2, q⟩ := h
  obtain ⟨⟨x, s1⟩, e1, e⟩ := Option.bind_eq_some_iff.mp e
  obtain ⟨⟨y, s2⟩, e3, e⟩ := Option.bind_eq_some_iff.mp e
  simp only at e
  split at e <;> cases e
  cases e2
  rename_i xs ys _
  refine ⟨Av, ρ, env, st, _, s1, ev, e1, fun ρ1 H1 v x1 r1 p1 => ?_⟩
  refine ⟨Av, ρ1, env, s1, _, st', ev.ext x1 r1, e3, fun ρ2 H2 w x2 r2 p2 => ?_⟩
  have p1' : Post (kdOf bw) X.K fad H1 H2 Av ρ2 (.tup xs) v := Post.ext p1 r1 x2
  have g1 := (Post.ofB p1').tup_inv
  have g2 := (Post.ofB p2).tup_inv
  obtain ⟨a, vs, rfl, ha, ra⟩ := g1
  obtain ⟨b, ws, rfl, hb, rb⟩ := g2
  refine ⟨a, b, vs, ws, rfl, .inr ⟨.inl (.inl ha), .inl (.inl hb), q ρ2 H2 _ (ev.sr.trans r1 x1 x2) r2 (src_zipT (vs := vs) (ws := ws) (fun ρ3 H3 Bad h3 => ?_) fun ρ3 H3 Bad h3 => ?_)⟩⟩
  · exact ⟨(stayGr r2 h3).sqT (.inl (.inl ha)), RepL.gr (stayGr r2 h3) _ _ ra⟩
  · exact ⟨(stayGr r2 h3).sqT (.inl (.inl hb)), RepL.gr (stayGr r2 h3) _ _ rb⟩

/-! ### tuple(range(..)), list(range(..)) -/
abbrev rg1F (f : EvF) : EvF := fun env st => (f env st).bind fun (x, s1) => match x with
      | .int n => if -1000000 ≤ n ∧ n ≤ 1000000 then some (.lst ((List.range n.toNat).map fun (k : Nat) => D.int k), s1) else none
      | _ => none
abbrev rg2F (f g : EvF) : EvF := fun env st => (f env st).bind fun (x, s1) => (g env s1).bind fun (y, s2) => match x, y with
      | .int m, .int n => if (-1000000 ≤ m ∧ m ≤ 1000000) ∧ -1000000 ≤ n ∧ n ≤ 1000000 then some (.lst ((List.range (n - m).toNat).map fun (k : Nat) => D.int (m + k)), s2) else none
      | _, _ => none
theorem rep_rg {K : PySem.W.Frag} (m : Int) : ∀ n, RepL K fad H Bad ρ ((List.range n).map fun (k : Nat) => D.int (m + k)) ((List.range n).map fun (k : Nat) => V.int (m + k)) := by
  intro n
  generalize List.range n = l
  induction l with
  | nil => exact .nil
  | cons k r ih => exact .cons (.int _) ih
/-- a range, by the evaluator: m .. n - 1 -/
def RgF (X : Cx) (fad : Nat → Addr) (e : Expr) (f : EvF) : Prop := ∃ te, PRg X e te ∧ ∀ {Av : Addr → Prop} {ρ : List Addr} {env : Mini.Env} {σ : L2.St} {st st' : Mini.St} {d : D} {H : Hp} {Q : Int → Int → Hp → Prop}, EV X.K fad Av ρ H env σ st → f env st = some (d, st') →
  (∀ ρ' H' m n, Ext ρ ρ' H H' → SR X.K fad Av ρ' H' st' → RgOk m n → d = .lst ((List.range (n - m).toNat).map fun (k : Nat) => D.int (m + k)) → Q m n H') → te σ H Q
theorem rgF1 {p pos : Pos} {a : Expr} {f : EvF} (hg : Gl X "range") (hm : X.mg "range" = none) (ha : PE X a (tF X.K fad .bor f)) (hs : ∀ b p, a ≠ .Starred b p) : RgF X fad (.Call (.Name "range" p) [a] [] pos) (rg1F f) := by
  refine ⟨_, prg_1 hg hm ha (noStar hs), fun {Av ρ env σ st st' d H Q} ev e q => ?_⟩
  obtain ⟨⟨x, s1⟩, e1, e⟩ := Option.bind_eq_some_iff.mp e
  simp only at e
  split at e <;> try cases e
  split at e <;> cases e
  rename_i n hz
  refine ⟨Av, ρ, env, st, _, st', ev, e1, fun ρ1 H1 v x1 r1 p1 => ?_⟩
  refine ⟨_, by rw [RepW.int_inv p1], q ρ1 H1 0 n x1 r1 ⟨by omega, by omega, by omega, by omega, by omega⟩ ?_⟩
  simp
theorem rgF2 {p pos : Pos} {a b : Expr} {f g : EvF} (hg : Gl X "range") (hm : X.mg "range" = none) (ha : PE X a (tF X.K fad .bor f)) (hb : PE X b (tF X.K fad .bor g)) (hs : ∀ b p, a ≠ .Starred b p) (ht : ∀ c p, b ≠ .Starred c p) : RgF X fad (.Call (.Name "range" p) [a, b] [] pos) (rg2F f g) := by
  refine ⟨_, prg_2 hg hm ha hb (noStar hs) (noStar ht) (by rw [noStar ht]; rfl), fun {Av ρ env σ st st' d H Q} ev e q => ?_⟩
  obtain ⟨⟨x, s1⟩, e1, e⟩ := Option.bind_eq_some_iff.mp e
  obtain ⟨⟨y, s2⟩, e3, e⟩ := Option.bind_eq_some_iff.mp e
  simp only at e
  split at e <;> try cases e
  split at e <;> cases e
  rename_i m n hz _
  refine ⟨Av, ρ, env, st, _, s1, ev, e1, fun ρ1 H1 v x1 r1 p1 => ?_⟩
  refine ⟨Av, ρ1, env, s1, _, st', ev.ext x1 r1, e3, fun ρ2 H2 w x2 r2 p2 => ?_⟩
  exact ⟨m, n, by rw [RepW.int_inv p1], by rw [RepW.int_inv p2], q ρ2 H2 m n (ev.sr.trans r1 x1 x2) r2 ⟨by omega, by omega, by omega, by omega, by omega⟩ rfl⟩
theorem starNo {f : Expr} {as : List Expr} {ks : List Keyword} {p : Pos} : ∀ b q, Expr.Call f as ks p ≠ .Starred b q := fun _ _ h => nomatch h
theorem pe_tupRgF {p pos : Pos} {e : Expr} {f : EvF} {kd : Kd} (hc : X.calm = true) (hg : Gl X "tuple") (hm : X.mg "tuple" = none) (he : RgF X fad e f) (hs : ∀ b p, e ≠ .Starred b p) :
    PE X (.Call (.Name "tuple" p) [e] [] pos) (tF X.K fad kd fun env st => (f env st).bind fun (x, s1) => (Mini.biD .tuple [x]).map (·, s1)) := by
  obtain ⟨te, h1, h2⟩ := he
  refine (pe_tupRg hc hg hm h1 (noStar hs)).imp fun σ H Q h => ?_
  obtain ⟨Av, ρ, env, st, d, st', ev, e, q⟩ := h
  obtain ⟨⟨x, s1⟩, e1, e⟩ := Option.bind_eq_some_iff.mp e
  obtain ⟨d', e2, e3⟩ := Option.map_eq_some_iff.mp e
  cases e3
  refine h2 ev e1 fun ρ1 H1 m n x1 r1 ok hd => ⟨ok, fun p hp => ?_⟩
  subst hd
  cases e2
  exact q ρ1 _ _ (ev.sr.trans r1 x1 (Ext.new hp)) (r1.new hp) (atomPost (r1.newT hp (rep_rg m _)) rfl)
theorem pe_listRgF {p pos : Pos} {e : Expr} {f : EvF} {kd : Kd} (hc : X.calm = true) (hg : Gl X "list") (hm : X.mg "list" = none) (he : RgF X fad e f) (hs : ∀ b p, e ≠ .Starred b p) :
    PE X (.Call (.Name "list" p) [e] [] pos) (tF X.K fad kd fun env st => (f env st).bind fun (x, s1) => (Mini.biD .list [x]).map (·, s1)) := by
  obtain ⟨te, h1, h2⟩ := he
  refine (pe_listRg hc hg hm h1 (noStar hs)).imp fun σ H Q h => ?_
  obtain ⟨Av, ρ, env, st, d, st', ev, e, q⟩ := h
  obtain ⟨⟨x, s1⟩, e1, e⟩ := Option.bind_eq_some_iff.mp e
  obtain ⟨d', e2, e3⟩ := Option.map_eq_some_iff.mp e
  cases e3
  refine h2 ev e1 fun ρ1 H1 m n x1 r1 ok hd => ⟨ok, fun p hp => ?_⟩
  subst hd
  cases e2
  exact q ρ1 _ _ (ev.sr.trans r1 x1 (Ext.new hp)) (r1.new hp) (Post.any (PostN.earlier (d := .lst _) (r1.newL hp (rep_rg m _)) (ev.sr.kept x1 r1)))

/-! ### isinstance -/
/-- the type's name, by its value -/
def tyN : D → Option String
  | .non => some "NoneType"
  | .bl _ => some "bool"
  | .int _ => some "int"
  | .str _ => some "str"
  | .tup _ | .wt _ => some "tuple"
  | .lst _ => some "list"
  | .dct _ => some "dict"
  | _ => none
theorem tyX_of {d : D} {v : V} {n : String} (w : RepW X.K fad H Av ρ d v) (h : tyN d = some n) : TyX X.K H v (.type n) := by
  cases d <;> simp [tyN] at h <;> subst h
  · rw [w.non_inv]; exact .base .non
  · rw [w.bl_inv]; exact .base (.bl _)
  · rw [w.int_inv]; exact .base (.int _)
  · obtain ⟨z, rfl, _⟩ := w.str_inv; exact .base (.str _)
  · obtain ⟨a, vs, rfl, ha, _⟩ := w.tup_inv; exact .base (.tup ha)
  · obtain ⟨a, vs, rfl, ha, _⟩ := w.lst_inv
    rcases ha with ha | ⟨u, ha⟩
    · exact .base (.lst ha)
    · exact .base (.frz ha)
  · obtain ⟨a, ws, rfl, ha, _⟩ := w.dct_inv; exact .base (.dT ha)
  · obtain ⟨a, vs, rfl, ha, _⟩ := w.wt_inv
    rcases ha with (ha | ⟨u, ha⟩) | ⟨o, its, n, hl, hc, _⟩
    · exact .base (.tup ha)
    · exact .fTuple ha
    · exact .kTuple hl hc
/-- the class that an is-question names -/
def isN : Mini.Bi → Option String
  | .isInt => some "int"
  | .isBool => some "bool"
  | .isTuple => some "tuple"
  | _ => none
theorem isi_ans {o : Mini.Bi} {c : String} {x d : D} (ho : isN o = some c) (h : Mini.biD o [x] = some d) : ∃ n b, tyN x = some n ∧ d = .bl b ∧ kitB n c = some b := by
  cases o <;> simp [isN] at ho <;> subst ho
  all_goals
    cases x <;> simp [Mini.biD] at h <;> subst h
    all_goals (refine ⟨_, _, rfl, rfl, ?_⟩; decide +kernel)
theorem pe_isiF {e : Expr} {c : Str} {n : String} {p pc pos : Pos} {o : Mini.Bi} {f : EvF} {kd : Kd} (hg : Gl X "isinstance") (hm : X.mg "isinstance" = none) (hgc : Gl X c) (hmc : X.mg c = none) (hv : bootBuiltins c = some (.type n)) (hn : c ≠ "__name__") (hd : (c == ("__debug__" : Str)) = false)
    (ho : isN o = some n) (ha : PE X e (tF X.K fad .bor f)) (hs : ∀ b p, e ≠ .Starred b p) :
    PE X (.Call (.Name "isinstance" p) [e, .Name c pc] [] pos) (tF X.K fad kd fun env st => (f env st).bind fun (x, s1) => (Mini.biD o [x]).map (·, s1)) := by
  have h2 : PE X (.Name c pc) (tC (.ty n)) := pe_bltn hgc hmc hv rfl hn hd
  refine (pe_callB (call_isi (X := X)) hg hm (by rfl) (pa_cons ha (pa_cons h2 pa_nil (by rfl)) (noStar hs)) (by decide) (by decide) (noStar hs) (by rfl)).imp fun σ H Q h => ?_
  obtain ⟨Av, ρ, env, st, d, st', ev, e, q⟩ := h
  obtain ⟨⟨x, s1⟩, e1, e⟩ := Option.bind_eq_some_iff.mp e
  obtain ⟨d', e2, e3⟩ := Option.map_eq_some_iff.mp e
  cases e3
  refine ⟨Av, ρ, env, st, x, st', ev, e1, fun ρ1 H1 v x1 r1 p1 => ?_⟩
  obtain ⟨m, b, t1, rfl, t2⟩ := isi_ans ho e2
  exact ⟨v, .ty n, .type m, .type n, b, rfl, .ty n, tyX_of p1 t1, kit_ty t2, q ρ1 H1 _ x1 r1 (atomPost (.bl b) rfl)⟩
end
end Snd
end

section
set_option autoImplicit false
set_option Elab.async false
set_option linter.all false
set_option maxRecDepth 100000
set_option maxHeartbeats 1000000
/-! Snd11: targets; list comprehensions. -/
namespace Snd
open PySem PySem.Spec PyProof.Rows L2
open Mini (D Sl T)
section
variable {fad : Nat → Addr} {H H' H0 H1 : Hp} {Av Bad : Addr → Prop} {ρ ρ' ρ1 : List Addr} {st st' : Mini.St} {X : Cx} {pins : List (Addr × Obj)} {σ σ' : L2.St} {s : Shared} {env env' : Mini.Env} {p : Addr} {o : HO}
/-! ### an address of one's own -/
abbrev Av1 (Av : Addr → Prop) (p : Addr) : Addr → Prop := fun a => Av a ∨ a = p
theorem bd_av1 {a : Addr} : Bd (Av1 Av p) ρ a ↔ Bd Av ρ a ∨ a = p := by
  constructor
  · rintro ((h | h) | h)
    · exact .inl (.inl h)
    · exact .inr h
    · exact .inl (.inr h)
  · rintro ((h | h) | h)
    · exact .inl (.inl h)
    · exact .inr h
    · exact .inl (.inr h)
theorem RepO.gr {K : PySem.W.Frag} {Bad Bad' : Addr → Prop} {d : List (List Nat × D)} {v : List (Key × V)} (g : Gr K Bad Bad' ρ ρ' H H') (r : RepO K fad H Bad ρ d v) : RepO K fad H' Bad' ρ' d v := by
  induction r with
  | nil => exact .nil
  | cons r _ ih => exact .cons (Rep.gr g _ _ r) ih
/-- an own object is written anew: the rest stays -/
theorem upd_gr (hp : Bd Av ρ p) (hm : Mt (H p)) : Gr X.K (Bd Av ρ) (Bd Av ρ) ρ ρ H (upd H p o) := by
  refine ⟨fun a xs h => ?_, fun a o u h => ?_, fun a u ea n => ⟨?_, n⟩, fun _ _ h => h⟩
  · have : a ≠ p := fun z => by subst z; rw [h] at hm; exact hm
    rw [upd_ne this]; exact h
  · have : a ≠ p := fun z => by subst z; rw [h] at hm; exact hm
    rw [upd_ne this]; exact h
  · have : a ≠ p := fun z => n (z ▸ hp)
    rw [upd_ne this]; exact ea
theorem SR.updO (sr : SR X.K fad Av ρ H st) (hp : Av p) (hn : p ∉ ρ) (hm : Mt (some o)) : SR X.K fad Av ρ (upd H p o) st := by
  refine ⟨sr.nd, sr.len, fun n a ob h1 h2 => ?_, fun a ha => ?_⟩
  · obtain ⟨kvs, ek, r⟩ := sr.obj n a ob h1 h2
    have : a ≠ p := fun z => hn (z ▸ List.mem_of_getElem? h1)
    exact ⟨kvs, by rw [upd_ne this]; exact ek, r.gr (upd_gr (X := X) (.inl hp) (sr.av p hp))⟩
  · by_cases z : a = p
    · subst z; rw [upd_same]; exact hm
    · rw [upd_ne z]; exact sr.av a ha
theorem Ext.updN (e : Ext ρ ρ' H H') (h : H p = none) : Ext ρ ρ' H (upd H' p o) := ⟨fun a u ea n => by
  have : a ≠ p := fun z => by subst z; rw [ea] at h; cases h
  rw [upd_ne this]; exact e.keep a u ea n, e.pre⟩
theorem Ext.grO (sr : SR X.K fad Av ρ H st) (e : Ext ρ ρ' H H') (h : H p = none) : Gr X.K (Bd Av ρ) (Bd (Av1 Av p) ρ') ρ ρ' H H' := e.grB sr fun a ha => by
  rcases bd_av1.mp ha with q | q
  · exact .inl q
  · exact .inr (q ▸ h)
theorem RepW.grO {d : D} {v : V} (w : RepW X.K fad H Av ρ d v) (sr : SR X.K fad Av ρ H st) (e : Ext ρ ρ' H H') (h : H p = none) : RepW X.K fad H' (Av1 Av p) ρ' d v := by
  have g := e.grO sr h
  cases w with
  | of r => exact .of (Rep.gr g _ _ r)
  | lst h0 h1 h2 => exact .lst (e.notin h1 h0) (e.keep _ _ h1 h0) (RepL.gr g _ _ h2)
  | dct h0 h1 h2 => exact .dct (e.notin h1 h0) (e.keep _ _ h1 h0) (RepK.gr g _ _ h2)
theorem EV.grO (ev : EV X.K fad Av ρ H env σ st) (e : Ext ρ ρ' H H') (h : H p = none) (s' : SR X.K fad (Av1 Av p) ρ' H' st') : EV X.K fad (Av1 Av p) ρ' H' env σ st' :=
  ⟨s', ev.len, fun i d hi => let ⟨x, h1, h2⟩ := ev.sh i d hi; ⟨x, h1, Rep.gr (e.grO ev.sr h) _ _ h2⟩, fun i d hi => let ⟨x, h1, h2⟩ := ev.ow i d hi; ⟨x, h1, h2.grO ev.sr e h⟩⟩
theorem SR.own (sr : SR X.K fad Av ρ H st) (h : H p = none) (hm : Mt (some o)) : SR X.K fad (Av1 Av p) ρ (upd H p o) st := by
  have e : Ext ρ ρ H (upd H p o) := Ext.new h
  refine ⟨sr.nd, sr.len, fun n a ob h1 h2 => ?_, fun a ha => ?_⟩
  · obtain ⟨kvs, ek, r⟩ := sr.obj n a ob h1 h2
    exact ⟨kvs, by rw [upd_ne (ne_of_none ek h)]; exact ek, r.gr (e.grO (X := X) sr h)⟩
  · rcases ha with ha | ha
    · obtain ⟨u, hu⟩ := Mt.some (sr.av a ha)
      rw [upd_ne (ne_of_none hu h)]
      exact sr.av a ha
    · subst ha; rw [upd_same]; exact hm
theorem SR.drop (sr : SR X.K fad (Av1 Av p) ρ H st) : SR X.K fad Av ρ H st := ⟨sr.nd, sr.len, fun n a ob h1 h2 => by
  obtain ⟨kvs, ek, r⟩ := sr.obj n a ob h1 h2
  exact ⟨kvs, ek, r.gr (Gr.weak (K := X.K) fun b hb => bd_av1.mpr (.inl hb))⟩, fun a ha => sr.av a (.inl ha)⟩
theorem RepL.av1 {xs : List D} {vs : List V} (r : RepL X.K fad H (Bd (Av1 Av p) ρ) ρ xs vs) : RepL X.K fad H (fun a => Bd Av ρ a ∨ a = p) ρ xs vs := RepL.gr (Gr.weak (K := X.K) fun b hb => bd_av1.mpr hb) _ _ r
theorem RepK.av1 {xs : List (D × D)} {vs : List (List Key × V)} (r : RepK X.K fad H (Bd (Av1 Av p) ρ) ρ xs vs) : RepK X.K fad H (fun a => Bd Av ρ a ∨ a = p) ρ xs vs := RepK.gr (Gr.weak (K := X.K) fun b hb => bd_av1.mpr hb) _ _ r

/-! ### targets -/
mutual
def tgIx : T → List Nat
  | .var i => [i]
  | .tup ts => tgIxs ts
  | _ => []
def tgIxs : T → List Nat
  | .cons t r => tgIx t ++ tgIxs r
  | _ => []
end
/-- behind an assignment to the slots in ix -/
structure Aft (X : Cx) (fad : Nat → Addr) (Av : Addr → Prop) (ρ : List Addr) (H : Hp) (env env' : Mini.Env) (σ σ' : L2.St) (st : Mini.St) (ix : List Nat) : Prop where
  ev : EV X.K fad Av ρ H env' σ' st
  len : σ'.length = σ.length
  out : ∀ vs : List Nat, (∀ i ∈ ix, i ∈ vs) → wipe σ' vs = wipe σ vs
  ow : ∀ (i : Nat) (d : D), env'[i]? = some (.ow d) → env[i]? = some (.ow d) ∧ σ'[i]? = σ[i]?
def tFG (X : Cx) (fad : Nat → Addr) (tg : T) : TG := fun v σ H Q => ∃ (Av : Addr → Prop) (ρ : List Addr) (env : Mini.Env) (st : Mini.St) (d : D) (env' : Mini.Env), EV X.K fad Av ρ H env σ st ∧ Rep X.K fad H (Bd Av ρ) ρ d v ∧ Mini.asgT tg d env = some env' ∧
  ∀ σ', Aft X fad Av ρ H env env' σ σ' st (tgIx tg) → Q σ' H
def tFGs (X : Cx) (fad : Nat → Addr) (tg : T) : TGs := fun vs σ H Q => ∃ (Av : Addr → Prop) (ρ : List Addr) (env : Mini.Env) (st : Mini.St) (ds : List D) (env' : Mini.Env), EV X.K fad Av ρ H env σ st ∧ RepL X.K fad H (Bd Av ρ) ρ ds vs ∧ Mini.asgTs tg ds env = some env' ∧
  ∀ σ', Aft X fad Av ρ H env env' σ σ' st (tgIxs tg) → Q σ' H
theorem _root_.L2.PG.imp {tg : Expr} {t t' : TG} (h : PG X tg t) (i : ∀ v σ H Q, t' v σ H Q → t v σ H Q) : PG X tg t' := ⟨fun pins s σ H v u Q I r hw => h.run pins s σ H v u Q I r (i _ _ _ _ hw)⟩
theorem _root_.L2.PGs.imp {tg : List Expr} {t t' : TGs} (h : PGs X tg t) (i : ∀ v σ H Q, t' v σ H Q → t v σ H Q) : PGs X tg t' := ⟨fun pins s σ H v u Q I r hw => h.run pins s σ H v u Q I r (i _ _ _ _ hw)⟩
theorem wipe_get (σ : L2.St) (i : Nat) : ∀ vs : List Nat, (wipe σ vs)[i]? = if i ∈ vs then (if i < σ.length then some none else none) else σ[i]?
  | [] => by simp [wipe]
  | v :: vs => by
    unfold wipe
    rw [List.getElem?_set, wipe_length, wipe_get σ i vs]
    by_cases h : v = i
    · subst h; simp
    · have h' : ¬ i = v := fun z => h z.symm
      simp [h, h', List.mem_cons]
theorem wipe_setIn {i : Nat} {x : Option V} {vs : List Nat} (h : i ∈ vs) : wipe (σ.set i x) vs = wipe σ vs := by
  apply List.ext_getElem?
  intro j
  rw [wipe_get, wipe_get, List.length_set]
  by_cases hj : j ∈ vs
  · rw [if_pos hj, if_pos hj]
  · rw [if_neg hj, if_neg hj, List.getElem?_set]
    have : ¬ i = j := fun z => hj (z ▸ h)
    simp [this]
theorem Aft.refl (ev : EV X.K fad Av ρ H env σ st) : Aft X fad Av ρ H env env σ σ st [] := ⟨ev, rfl, fun _ _ => rfl, fun _ _ h => ⟨h, rfl⟩⟩
theorem Aft.trans {env2 : Mini.Env} {σ2 : L2.St} {ix ix' : List Nat} (a : Aft X fad Av ρ H env env' σ σ' st ix) (b : Aft X fad Av ρ H env' env2 σ' σ2 st ix') : Aft X fad Av ρ H env env2 σ σ2 st (ix ++ ix') :=
  ⟨b.ev, b.len.trans a.len, fun vs h => (b.out vs fun i hi => h i (List.mem_append_right _ hi)).trans (a.out vs fun i hi => h i (List.mem_append_left _ hi)), fun i d h =>
    let ⟨h1, h2⟩ := b.ow i d h
    let ⟨h3, h4⟩ := a.ow i d h1
    ⟨h3, h2.trans h4⟩⟩
theorem setV_some {i : Nat} {x : Sl} (h : Mini.setV env i x = some env') : i < env.length ∧ env' = env.set i x := by
  unfold Mini.setV at h
  split at h <;> cases h
  exact ⟨by assumption, rfl⟩
theorem EV.setSh {i : Nat} {d : D} {v : V} (ev : EV X.K fad Av ρ H env σ st) (r : Rep X.K fad H (Bd Av ρ) ρ d v) (hi : i < env.length) : EV X.K fad Av ρ H (env.set i (.sh d)) (σ.set i (some v)) st := by
  refine ⟨ev.sr, by rw [List.length_set, List.length_set]; exact ev.len, fun j d' h => ?_, fun j d' h => ?_⟩
  · rw [List.getElem?_set] at h ⊢
    by_cases hj : i = j
    · subst hj
      rw [if_pos rfl, if_pos hi] at h
      cases h
      exact ⟨v, by rw [if_pos rfl, if_pos (by rw [← ev.len]; exact hi)], r⟩
    · rw [if_neg hj] at h ⊢
      exact ev.sh j d' h
  · rw [List.getElem?_set] at h ⊢
    by_cases hj : i = j
    · subst hj
      rw [if_pos rfl, if_pos hi] at h
      cases h
    · rw [if_neg hj] at h ⊢
      exact ev.ow j d' h
theorem pg_varF {i : Nat} {x : Str} {pos : Pos} (hN : X.N.Nodup) (hi : X.N[i]? = some x) (hx : Loc X.env.scope x) (hf : X.fn x = true ∨ X.env.scope.names.lookup x = some .local) : PG X (.Name x pos) (tFG X fad (.var i)) := by
  refine (pg_name hN hi hx hf).imp fun v σ H Q h => ?_
  obtain ⟨Av, ρ, env, st, d, env', ev, r, e, q⟩ := h
  obtain ⟨hl, rfl⟩ := setV_some e
  refine q _ ⟨ev.setSh r hl, by rw [List.length_set], fun vs hv => wipe_setIn (hv i (by simp [tgIx])), fun j d' h => ?_⟩
  rw [List.getElem?_set] at h
  by_cases hj : i = j
  · subst hj
    rw [if_pos rfl, if_pos hl] at h
    cases h
  · rw [if_neg hj] at h
    rw [List.getElem?_set, if_neg hj]
    exact ⟨h, rfl⟩
theorem pgs_nilF : PGs X [] (tFGs X fad .nil) := by
  refine pgs_nil.imp fun vs σ H Q h => ?_
  obtain ⟨Av, ρ, env, st, ds, env', ev, r, e, q⟩ := h
  cases ds with
  | cons d r => simp [Mini.asgTs] at e
  | nil =>
    cases r
    simp [Mini.asgTs] at e
    subst e
    exact ⟨rfl, q σ (Aft.refl ev)⟩
theorem noStarA {e : Expr} {es : List Expr} {env : Env} (h : ∀ a p, e ≠ .Starred a p) : assignEach (e :: es) env = (false, assign e env) :: assignEach es env := by
  cases e <;> first | rfl | (exact absurd rfl (h _ _))
theorem pgs_consF {e : Expr} {es : List Expr} {t ts : T} (h1 : PG X e (tFG X fad t)) (h2 : PGs X es (tFGs X fad ts)) (hs : ∀ a p, e ≠ .Starred a p) : PGs X (e :: es) (tFGs X fad (.cons t ts)) := by
  refine (pgs_cons h1 h2 (by rw [noStarA hs]; rfl)).imp fun vs σ H Q h => ?_
  obtain ⟨Av, ρ, env, st, ds, env', ev, r, e, q⟩ := h
  cases ds with
  | nil => simp [Mini.asgTs] at e
  | cons d ds =>
    cases r with
    | cons r rr =>
      simp only [Mini.asgTs] at e
      obtain ⟨env1, e1, e2⟩ := Option.bind_eq_some_iff.mp e
      refine ⟨_, _, rfl, Av, ρ, env, st, d, env1, ev, r, e1, fun σ1 a1 => ?_⟩
      refine ⟨Av, ρ, env1, st, ds, env', a1.ev, rr, e2, fun σ2 a2 => q σ2 ?_⟩
      simp only [tgIxs]
      exact a1.trans a2
theorem assignEach_plain {env : Env} : ∀ {es : List Expr}, (∀ e ∈ es, ∀ a p, e ≠ .Starred a p) → (assignEach es env).length = es.length ∧ (assignEach es env).findIdx? (·.1) = none
  | [], _ => ⟨rfl, rfl⟩
  | e :: es, h => by
    obtain ⟨a, b⟩ := assignEach_plain (es := es) fun x hx => h x (List.mem_cons_of_mem _ hx)
    rw [noStarA (h e (List.mem_cons_self ..))]
    refine ⟨by rw [List.length_cons, List.length_cons, a], ?_⟩
    rw [List.findIdx?_cons, b]
    rfl
theorem asgTs_len : ∀ {ts : T} {ds : List D} {env env' : Mini.Env}, Mini.asgTs ts ds env = some env' → ∀ n, (∀ xs env env', Mini.asgTs ts xs env = some env' → xs.length = n) → ds.length = n := fun e n h => h _ _ _ e
/-- how many -/
def tLen : T → Nat
  | .cons _ r => tLen r + 1
  | _ => 0
theorem asgTs_length : ∀ (ts : T) {ds : List D} {env env' : Mini.Env}, Mini.asgTs ts ds env = some env' → ds.length = tLen ts := by
  intro ts
  induction ts with
  | nil =>
    intro ds env env' h
    cases ds with
    | nil => rfl
    | cons d r => simp [Mini.asgTs] at h
  | cons a r _ ih =>
    intro ds env env' h
    cases ds with
    | nil => simp [Mini.asgTs] at h
    | cons d ds =>
      simp only [Mini.asgTs] at h
      obtain ⟨env1, e1, e2⟩ := Option.bind_eq_some_iff.mp h
      rw [List.length_cons, ih e2]
      rfl
  | _ => intro ds env env' h; cases ds <;> simp [Mini.asgTs] at h
theorem pg_tupF {es : List Expr} {k : Nat} {pos : Pos} {ts : T} (hc : X.calm = true) (h : PGs X es (tFGs X fad ts)) (hs : ∀ e ∈ es, ∀ a p, e ≠ .Starred a p) (hl : es.length = tLen ts) : PG X (.Tuple es k pos) (tFG X fad (.tup ts)) := by
  refine (pg_tup (n := es.length) hc h (assignEach_plain hs).1 (assignEach_plain hs).2).imp fun v σ H Q h => ?_
  obtain ⟨Av, ρ, env, st, d, env', ev, r, e, q⟩ := h
  cases d <;> simp only [Mini.asgT] at e <;> try (cases e; done)
  cases r with
  | tup h1 h2 =>
    refine ⟨_, _, rfl, .inl (.inl h1), ?_, Av, ρ, env, st, _, env', ev, h2, e, fun σ' a => q σ' ?_⟩
    · rw [← h2.length, asgTs_length _ e, hl]
    · simp only [tgIx]; exact a
end
end Snd
end

section
set_option autoImplicit false
set_option Elab.async false
set_option linter.all false
set_option maxRecDepth 100000
set_option maxHeartbeats 1000000
/-! Snd12: list comprehensions. -/
namespace Snd
open PySem PySem.Spec PyProof.Rows L2
open Mini (D Sl T)
section
variable {fad : Nat → Addr} {H H' H0 H1 H2 : Hp} {Av Bad : Addr → Prop} {ρ ρ' ρ1 ρ2 : List Addr} {st st' : Mini.St} {X : Cx} {pins : List (Addr × Obj)} {σ σ' : L2.St} {s : Shared} {env env' : Mini.Env} {p : Addr} {o : HO}
/-- a list or dict of one's own at p -/
inductive Cont (K : PySem.W.Frag) (fad : Nat → Addr) (H : Hp) (Bad : Addr → Prop) (ρ : List Addr) : D → Addr → Prop
  | lst {xs : List D} {p : Addr} {vs : List V} : H p = some (.lst vs) → RepL K fad H Bad ρ xs vs → Cont K fad H Bad ρ (.lst xs) p
  | dct {kvs : List (D × D)} {p : Addr} {ws : List (List Key × V)} : H p = some (.dT ws) → RepK K fad H Bad ρ kvs ws → Cont K fad H Bad ρ (.dct kvs) p
/-- the reading of an expression that makes a list or a dict -/
def tFr (X : Cx) (fad : Nat → Addr) (f : EvF) : TE := fun σ H Q => ∃ (Av : Addr → Prop) (ρ : List Addr) (env : Mini.Env) (st : Mini.St) (d : D) (st' : Mini.St), EV X.K fad Av ρ H env σ st ∧ f env st = some (d, st') ∧ Mini.ownable d = true ∧
  ∀ ρ' H' p, Ext ρ ρ' H H' → H p = none → p ∉ ρ' → SR X.K fad (Av1 Av p) ρ' H' st' → Cont X.K fad H' (Bd (Av1 Av p) ρ') ρ' d p → Q (.ref p) H'
theorem Cont.fre {d : D} (c : Cont X.K fad H (Bd (Av1 Av p) ρ) ρ d p) (h0 : H0 p = none) (hn : ¬ Bd Av ρ p) : PostN X.K fad H0 H Av ρ d (.ref p) := by
  cases c with
  | lst h1 h2 => exact (Fre.lst h0 hn h1 h2.av1 : Fre X.K fad H0 H Av ρ (.lst _) (.ref p))
  | dct h1 h2 => exact (Fre.dct h0 hn h1 h2.av1 : Fre X.K fad H0 H Av ρ (.dct _) (.ref p))
theorem tFr_of {f : EvF} {kd : Kd} {Q : VK} (ho : ∀ env st d st', f env st = some (d, st') → Mini.ownable d = true) (h : tF X.K fad kd f σ H Q) : tFr X fad f σ H Q := by
  obtain ⟨Av, ρ, env, st, d, st', ev, e, q⟩ := h
  refine ⟨Av, ρ, env, st, d, st', ev, e, ho _ _ _ _ e, fun ρ' H' p x h0 hn r c => q ρ' H' _ x r.drop (Post.any (c.fre h0 fun z => ?_))⟩
  rcases z with z | z
  · obtain ⟨o, ho⟩ := Mt.some (ev.sr.av p z)
    rw [ho] at h0; cases h0
  · exact hn z
theorem wipeE_get (env : Mini.Env) (i : Nat) : ∀ vs : List Nat, (Mini.wipeE env vs)[i]? = if i ∈ vs then (if i < env.length then some .un else none) else env[i]?
  | [] => by simp [Mini.wipeE]
  | v :: vs => by
    have hl : (Mini.wipeE env vs).length = env.length := by
      clear i v
      induction vs with
      | nil => rfl
      | cons v vs ih => unfold Mini.wipeE; rw [List.length_set, ih]
    unfold Mini.wipeE
    rw [List.getElem?_set, hl, wipeE_get env i vs]
    by_cases h : v = i
    · subst h; simp
    · have h' : ¬ i = v := fun z => h z.symm
      simp [h, h', List.mem_cons]
theorem wipeE_length (env : Mini.Env) : ∀ vs : List Nat, (Mini.wipeE env vs).length = env.length
  | [] => rfl
  | v :: vs => by unfold Mini.wipeE; rw [List.length_set, wipeE_length env vs]
theorem EV.wipe (ev : EV X.K fad Av ρ H env σ st) (vs : List Nat) : EV X.K fad Av ρ H (Mini.wipeE env vs) (L2.wipe σ vs) st := by
  refine ⟨ev.sr, by rw [wipeE_length, wipe_length]; exact ev.len, fun i d h => ?_, fun i d h => ?_⟩
  · rw [wipeE_get] at h
    rw [wipe_get]
    by_cases hi : i ∈ vs
    · rw [if_pos hi] at h
      split at h <;> cases h
    · rw [if_neg hi] at h ⊢
      exact ev.sh i d h
  · rw [wipeE_get] at h
    rw [wipe_get]
    by_cases hi : i ∈ vs
    · rw [if_pos hi] at h
      split at h <;> cases h
    · rw [if_neg hi] at h ⊢
      exact ev.ow i d h
/-- tests, one after another -/
def tFC (X : Cx) (fad : Nat → Addr) (f : Mini.Env → Mini.St → Option (Bool × Mini.St)) : TT := fun σ H Q => ∃ (Av : Addr → Prop) (ρ : List Addr) (env : Mini.Env) (st : Mini.St) (b : Bool) (st' : Mini.St), EV X.K fad Av ρ H env σ st ∧ f env st = some (b, st') ∧
  ∀ ρ' H', Ext ρ ρ' H H' → SR X.K fad Av ρ' H' st' → Q b H'
theorem _root_.L2.PTs.imp {cs : List Expr} {t t' : TT} (h : PTs X cs t) (i : ∀ σ H Q, t' σ H Q → t σ H Q) : PTs X cs t' := ⟨fun pins s σ H Q I hw => h.run pins s σ H Q I (i _ _ _ hw)⟩
theorem pts_nilF : PTs X [] (tFC X fad fun _ st => some (true, st)) := by
  refine pts_nil.imp fun σ H Q h => ?_
  obtain ⟨Av, ρ, env, st, b, st', ev, e, q⟩ := h
  cases e
  exact q ρ H Ext.refl ev.sr
theorem pts_oneF {c : Expr} {f : EvF} (h : PT X c (tFT X.K fad f)) : PTs X [c] (tFC X fad fun env st => (f env st).bind fun (x, s1) => (Mini.tru x).bind fun b => if b then (fun (_ : Mini.Env) st => some (true, st)) env s1 else some (false, s1)) := by
  refine (pts_one h).imp fun σ H Q h => ?_
  obtain ⟨Av, ρ, env, st, b, st', ev, e, q⟩ := h
  obtain ⟨⟨x, s1⟩, e1, e⟩ := Option.bind_eq_some_iff.mp e
  obtain ⟨c, e2, e⟩ := Option.bind_eq_some_iff.mp e
  rw [tru_bl e2] at e1
  refine ⟨Av, ρ, env, st, c, s1, ev, e1, fun ρ1 H1 x1 r1 => ?_⟩
  cases c with
  | true =>
    have e' : some (true, s1) = some (b, st') := by simpa using e
    cases e'
    exact q ρ1 H1 x1 r1
  | false =>
    have e' : some (false, s1) = some (b, st') := by simpa using e
    cases e'
    exact q ρ1 H1 x1 r1
/-- what a turn yields, seen from inside -/
theorem Src.item {J : It} {xs : List D} (S : Src X.K fad J xs (LC fad Av ρ1 H1)) (e : Ext ρ1 ρ H1 H) (hp : H1 p = none) (sr : SR X.K fad (Av1 Av p) ρ H st) {i : Nat} {x : V} (hi : i < xs.length) (y : J.yld i H x H') :
    ∃ d, xs[i]? = some d ∧ Ext ρ ρ H H' ∧ SR X.K fad (Av1 Av p) ρ H' st ∧ Rep X.K fad H' (Bd (Av1 Av p) ρ) ρ d x := by
  have hL : LC fad Av ρ1 H1 ρ H (Bd (Av1 Av p) ρ) := ⟨e, fun a ha => by
    rcases bd_av1.mp ha with q | q
    · exact .inl q
    · exact .inr (q ▸ hp)⟩
  obtain ⟨d, hd, h⟩ := S.yld ρ H _ hL i x H' hi y
  refine ⟨d, hd, ?_⟩
  rcases h with ⟨rfl, r⟩ | ⟨q, vs, ds, hq, rfl, rfl, rfl, r⟩
  · exact ⟨Ext.refl, sr, r⟩
  · exact ⟨Ext.new hq, sr.new hq, sr.newT hq r⟩
theorem lcGo_cons {asg : D → Option Mini.Env} {test : Mini.Env → Mini.St → Option (Bool × Mini.St)} {elt : Mini.Env → Mini.St → Option (List D × Mini.St)} {x : D} {xs : List D} {zs : List D}
    (h : Mini.lcGo asg test elt (x :: xs) st = some (zs, st')) : ∃ env b s1, asg x = some env ∧ test env st = some (b, s1) ∧ ((b = true ∧ ∃ ys s2 ws, elt env s1 = some (ys, s2) ∧ Mini.lcGo asg test elt xs s2 = some (ws, st') ∧ zs = ys ++ ws) ∨ (b = false ∧ Mini.lcGo asg test elt xs s1 = some (zs, st'))) := by
  unfold Mini.lcGo at h
  obtain ⟨env, e1, h⟩ := Option.bind_eq_some_iff.mp h
  obtain ⟨⟨b, s1⟩, e2, h⟩ := Option.bind_eq_some_iff.mp h
  refine ⟨env, b, s1, e1, e2, ?_⟩
  cases b with
  | true =>
    simp only [if_true] at h
    obtain ⟨⟨ys, s2⟩, e3, h⟩ := Option.bind_eq_some_iff.mp h
    obtain ⟨⟨ws, s3⟩, e4, h⟩ := Option.bind_eq_some_iff.mp h
    cases h
    exact .inl ⟨rfl, ys, s2, ws, e3, e4, rfl⟩
  | false =>
    simp only [Bool.false_eq_true, if_false] at h
    exact .inr ⟨rfl, h⟩
theorem one_some {r : Option (D × Mini.St)} {ys : List D} (h : Mini.one r = some (ys, st)) : ∃ d, r = some (d, st) ∧ ys = [d] := by
  obtain ⟨⟨d, s⟩, e, h⟩ := Option.map_eq_some_iff.mp h
  cases h
  exact ⟨d, e, rfl⟩
abbrev lcF (own : List Nat) (tg : T) (f : EvF) (fc : Mini.Env → Mini.St → Option (Bool × Mini.St)) (fe : EvF) : EvF := fun env st => (f env st).bind fun (x, s1) => (Mini.seqD x).bind fun xs =>
      Mini.guardLen (Mini.lcGo (fun d => Mini.asgT tg d (Mini.wipeE env own)) fc (fun env st => Mini.one (fe env st)) xs s1)
/-- one turn's body -/
theorem lc_turn {tg : T} {fc : Mini.Env → Mini.St → Option (Bool × Mini.St)} {fe : EvF} {own : List Nat} {D : Addr} {sti s1 : Mini.St} {d : Mini.D} {x : V} {env2 : Mini.Env} {b : Bool} {acc : List V} {Nx : Hp → Prop} {Avd : Addr → Prop}
    (ev : EV X.K fad Avd ρ H env σ sti) (hD : H D = some (.lst acc)) (r : Rep X.K fad H (Bd Avd ρ) ρ d x) (hix : ∀ i ∈ tgIx tg, i ∈ own)
    (e1 : Mini.asgT tg d (Mini.wipeE env own) = some env2) (e2 : fc env2 sti = some (b, s1))
    (hf : b = false → ∀ ρ3 H3, Ext ρ ρ3 H H3 → SR X.K fad Avd ρ3 H3 s1 → Nx H3)
    (ht : b = true → acc.length < sizeLine ∧ ∃ y s2, fe env2 s1 = some (y, s2) ∧ ∀ ρ4 H4 v, Ext ρ ρ4 H H4 → SR X.K fad Avd ρ4 H4 s2 → Rep X.K fad H4 (Bd Avd ρ4) ρ4 y v → H4 D = some (.lst acc) → Nx (upd H4 D (.lst (acc ++ [v])))) :
    tFG X fad tg x (L2.wipe σ own) H fun σ2 H2 => L2.wipe σ2 own = L2.wipe σ own ∧ tFC X fad fc σ2 H2 fun b H3 =>
      if b = true then tF X.K fad .val fe σ2 H3 fun y H4 => ∃ acc, H4 D = some (.lst acc) ∧ acc.length < sizeLine ∧ Nx (upd H4 D (.lst (acc ++ [y]))) else Nx H3 := by
  have hn : D ∉ ρ := fun q => by
    obtain ⟨kvs, ek⟩ := ev.sr.dK q
    rw [ek] at hD; cases hD
  refine ⟨Avd, ρ, _, sti, d, env2, ev.wipe own, r, e1, fun σ2 a => ⟨?_, ?_⟩⟩
  · rw [a.out own hix]
    apply List.ext_getElem?
    intro j
    rw [wipe_get, wipe_length, wipe_get]
    by_cases hj : j ∈ own <;> simp [hj]
  · refine ⟨Avd, ρ, env2, sti, b, s1, a.ev, e2, fun ρ3 H3 x3 r3 => ?_⟩
    cases b with
    | false => simpa using hf rfl ρ3 H3 x3 r3
    | true =>
      simp only [if_true]
      obtain ⟨ha, y, s2, e3, q⟩ := ht rfl
      refine ⟨Avd, ρ3, env2, s1, y, s2, a.ev.ext x3 r3, e3, fun ρ4 H4 v x4 r4 p4 => ?_⟩
      have x34 := a.ev.sr.trans r3 x3 x4
      have hD4 := x34.keep _ _ hD hn
      exact ⟨acc, hD4, ha, q ρ4 H4 v x34 r4 p4 hD4⟩
theorem ite_some {α : Type} {c : Prop} [Decidable c] {a b : α} (h : (if c then some a else none) = some b) : c ∧ a = b := by
  split at h <;> cases h
  exact ⟨by assumption, rfl⟩
theorem mem_of_drop {α : Type} {l : List α} {i : Nat} (h : i < l.length) : l.drop i = l[i] :: l.drop (i + 1) := List.drop_eq_getElem_cons h
/-- the reading of a list comprehension -/
theorem tLc_F {own : List Nat} {tgT : T} {f fe : EvF} {fc : Mini.Env → Mini.St → Option (Bool × Mini.St)} {Q : VK} (hix : ∀ i ∈ tgIx tgT, i ∈ own) (h : tFr X fad (lcF own tgT f fc fe) σ H Q) :
    tLc (tFI X.K fad true f) (tFG X fad tgT) (tFC X fad fc) (tF X.K fad .val fe) own σ H Q := by
  obtain ⟨Av, ρ, env, st, d, st', ev, e, _, q⟩ := h
  obtain ⟨⟨x, s1⟩, e1, e⟩ := Option.bind_eq_some_iff.mp e
  obtain ⟨xs, e2, e⟩ := Option.bind_eq_some_iff.mp e
  obtain ⟨⟨total, s2⟩, e3, e⟩ := Option.bind_eq_some_iff.mp e
  obtain ⟨hz, e⟩ := ite_some e
  cases e
  refine ⟨Av, ρ, env, st, x, xs, s1, ev, e1, e2, fun ρ1 H1 J x1 r1 S => ?_⟩
  have S : Src X.K fad J xs (LC fad Av ρ1 H1) := S
  have ev1 := ev.ext x1 r1
  intro D hD
  refine ⟨fun i m H2 => m = xs.length - i ∧ i ≤ xs.length ∧ ∃ ρi sti acc ds zs, Ext ρ1 ρi H1 H2 ∧ SR X.K fad (Av1 Av D) ρi H2 sti ∧ H2 D = some (.lst acc) ∧ RepL X.K fad H2 (Bd (Av1 Av D) ρi) ρi ds acc ∧
    Mini.lcGo (fun d => Mini.asgT tgT d (Mini.wipeE env own)) fc (fun env st => Mini.one (fe env st)) (xs.drop i) sti = some (zs, st') ∧ ds ++ zs = total, ⟨xs.length, by simp, Nat.zero_le _, ρ1, s1, [], [], total, Ext.new hD, r1.own hD trivial, upd_same, .nil, by simpa using e3, rfl⟩, ?_⟩
  rintro i m H2 ⟨rfl, hi', ρi, sti, acc, ds, zs, xi, ri, hDi, ra, eg, et⟩
  have hn : D ∉ ρi := fun z => by
    obtain ⟨kvs, ek⟩ := ri.dK z
    rw [ek] at hDi; cases hDi
  have hL : LC fad Av ρ1 H1 ρi H2 (Bd (Av1 Av D) ρi) := ⟨xi, fun a ha => (bd_av1.mp ha).imp id fun (z : a = D) => z ▸ hD⟩
  by_cases hlt : i < xs.length
  · refine .inr ⟨S.go ρi H2 _ hL i hlt, fun H' => ∃ ρj stj acc ds zs, Ext ρ1 ρj H1 H' ∧ SR X.K fad (Av1 Av D) ρj H' stj ∧ H' D = some (.lst acc) ∧ RepL X.K fad H' (Bd (Av1 Av D) ρj) ρj ds acc ∧
      Mini.lcGo (fun d => Mini.asgT tgT d (Mini.wipeE env own)) fc (fun env st => Mini.one (fe env st)) (xs.drop (i + 1)) stj = some (zs, st') ∧ ds ++ zs = total, fun H' h' => ⟨xs.length - (i + 1), by omega, rfl, by omega, h'⟩, fun y H' hy => ?_⟩
    obtain ⟨dx, hdx, xy, ry, py⟩ := Src.item S xi hD ri hlt hy
    have hdx' : xs[i] = dx := by
      rw [List.getElem?_eq_getElem hlt] at hdx
      exact Option.some.inj hdx
    rw [mem_of_drop hlt, hdx'] at eg
    obtain ⟨env2, b, s3, g1, g2, g3⟩ := lcGo_cons eg
    have evi : EV X.K fad (Av1 Av D) ρi H2 env σ sti := ev1.grO xi hD ri
    have evy := evi.ext xy ry
    have hDy := xy.keep _ _ hDi hn
    have xiy := r1.trans ri.drop xi xy
    have ray : RepL X.K fad H' (Bd (Av1 Av D) ρi) ρi ds acc := ra.ext ri xy
    have hle : acc.length = ds.length := ra.length.symm
    have hsz : total.length ≤ sizeLine := hz
    refine lc_turn (s1 := s3) (b := b) (d := dx) (sti := sti) evy hDy py hix g1 g2 (fun hb ρ3 H3 x3 r3 => ?_) (fun hb => ?_)
    · subst hb
      rcases g3 with ⟨z, _⟩ | ⟨_, h1⟩
      · cases z
      · exact ⟨ρ3, s3, acc, ds, zs, r1.trans ry.drop xiy x3, r3, x3.keep _ _ hDy hn, ray.ext ry x3, h1, et⟩
    · subst hb
      rcases g3 with ⟨_, ys, s4, ws, h1, h2, h3⟩ | ⟨z, _⟩
      · obtain ⟨y', h4, rfl⟩ := one_some h1
        refine ⟨by rw [← et, h3] at hsz; simp at hsz; omega, y', s4, h4, fun ρ4 H4 v x4 r4 p4 hD4 => ?_⟩
        have n4 : D ∉ ρ4 := x4.notin hDy hn
        have g4 := upd_gr (X := X) (Av := Av1 Av D) (ρ := ρ4) (o := .lst (acc ++ [v])) (p := D) (H := H4) (.inl (.inr rfl)) (by rw [hD4]; trivial)
        refine ⟨ρ4, s4, acc ++ [v], ds ++ [y'], ws, ?_, r4.updO (.inr rfl) n4 trivial, upd_same, ?_, h2, ?_⟩
        · exact (r1.trans ry.drop xiy x4).updN hD
        · exact RepL.gr g4 _ _ ((ray.ext ry x4).append (.cons p4 .nil))
        · rw [← et, h3]; simp
      · cases z
  · have hi2 : xs.length ≤ i := by omega
    refine .inl ⟨S.stop ρi H2 _ hL i hi2, ?_⟩
    have ed : xs.drop i = [] := List.drop_eq_nil_of_le hi2
    rw [ed] at eg
    cases eg
    rw [List.append_nil] at et
    subst et
    have hD0 : H D = none := by
      cases q0 : H D with
      | none => rfl
      | some o => exact absurd hD (ev.sr.kept x1 r1 D (by rw [q0]; simp))
    exact q ρi H2 D (ev.sr.trans r1 x1 xi) hD0 hn ri (.lst hDi ra)
theorem pe_lcF {elt tg iter : Expr} {ifs : List Expr} {scope : Scope} {own : List (Str × Nat)} {pos : Pos} {tgT : T} {f fe : EvF} {fc : Mini.Env → Mini.St → Option (Bool × Mini.St)} (hc : X.calm = true) (hN : X.N.Nodup) (hi : PI X tg iter (tFI X.K fad true f)) (ok : BlkOk X.N X.env.scope scope own)
    (hg : ∀ (s : Shared) (H : Hp) (C : Addr) (cl : List (Str × Addr)) (fp : List Addr), PG (X.blk s H scope (compEnvC scope cl C X.env) fp) tg (tFG X fad tgT)) (ht : ∀ (s : Shared) (H : Hp) (C : Addr) (cl : List (Str × Addr)) (fp : List Addr), PTs (X.blk s H scope (compEnvC scope cl C X.env) fp) ifs (tFC X fad fc))
    (he : ∀ (s : Shared) (H : Hp) (C : Addr) (cl : List (Str × Addr)) (fp : List Addr), PE (X.blk s H scope (compEnvC scope cl C X.env) fp) elt (tF X.K fad .val fe)) (hix : ∀ i ∈ tgIx tgT, i ∈ own.map (·.2)) (hs : ∀ x, foldedSetIterable iter X.env x = pure x) :
    PE X (.ListComp elt [⟨tg, iter, ifs, 0⟩] scope pos) (tFr X fad (lcF (own.map (·.2)) tgT f fc fe)) := (pe_lc hc hN hi ok hg ht he hs).imp fun σ H Q h => tLc_F hix h
end
end Snd
end

section
set_option autoImplicit false
set_option Elab.async false
set_option linter.all false
set_option maxRecDepth 100000
set_option maxHeartbeats 1000000
/-! Snd13: comprehensions with two fors. -/
namespace Snd
open PySem PySem.Spec PyProof.Rows L2
open Mini (D Sl T)
section
variable {fad : Nat → Addr} {H H' H0 H1 H2 : Hp} {Av Bad : Addr → Prop} {ρ ρ' ρ1 ρ2 : List Addr} {st st' : Mini.St} {X : Cx} {pins : List (Addr × Obj)} {σ σ' : L2.St} {s : Shared} {env env' : Mini.Env} {p : Addr} {o : HO}
theorem Gr.trans {K : PySem.W.Frag} {B1 B2 B3 : Addr → Prop} {r1 r2 r3 : List Addr} {G1 G2 G3 : Hp} (a : Gr K B1 B2 r1 r2 G1 G2) (b : Gr K B2 B3 r2 r3 G2 G3) : Gr K B1 B3 r1 r3 G1 G3 :=
  ⟨fun x xs h => b.tup x xs (a.tup x xs h), fun x o u h => b.frz x o u (a.frz x o u h), fun x o h n => let ⟨h1, n1⟩ := a.keep x o h n; b.keep x o h1 n1, fun n x h => b.pre n x (a.pre n x h)⟩
theorem EV.mix {env2 : Mini.Env} {σ2 : L2.St} {ρ3 : List Addr} {H3 : Hp} {s3 : Mini.St} (a : EV X.K fad Av ρ3 H3 env2 σ2 s3) (g : Gr X.K (Bd Av ρ3) (Bd Av ρ) ρ3 ρ H3 H) (b : EV X.K fad Av ρ H env σ st) (h : ∀ (i : Nat) (d : D), env2[i]? = some (.ow d) → env[i]? = some (.ow d) ∧ σ2[i]? = σ[i]?) : EV X.K fad Av ρ H env2 σ2 st :=
  ⟨b.sr, a.len, fun i d hi => let ⟨x, h1, h2⟩ := a.sh i d hi; ⟨x, h1, Rep.gr g _ _ h2⟩, fun i d hi => by
    obtain ⟨h1, h2⟩ := h i d hi
    obtain ⟨x, h3, h4⟩ := b.ow i d h1
    exact ⟨x, by rw [h2]; exact h3, h4⟩⟩
/-- a turn's item, seen from a loop whose body writes own objects -/
theorem Src.itemF {J : It} {xs : List D} (S : Src X.K fad J xs (LF X.K Av ρ1 H1)) (g : Gr X.K (Bd Av ρ1) (Bd Av ρ) ρ1 ρ H1 H) (sr : SR X.K fad Av ρ H st) {i : Nat} {x : V} (hi : i < xs.length) (y : J.yld i H x H') :
    ∃ d, xs[i]? = some d ∧ Ext ρ ρ H H' ∧ SR X.K fad Av ρ H' st ∧ Rep X.K fad H' (Bd Av ρ) ρ d x := by
  obtain ⟨d, hd, h⟩ := S.yld ρ H _ g i x H' hi y
  refine ⟨d, hd, ?_⟩
  rcases h with ⟨rfl, r⟩ | ⟨q, vs, ds, hq, rfl, rfl, rfl, r⟩
  · exact ⟨Ext.refl, sr, r⟩
  · exact ⟨Ext.new hq, sr.new hq, sr.newT hq r⟩
/-- the inner loop -/
theorem lc_inner {tg : T} {fc : Mini.Env → Mini.St → Option (Bool × Mini.St)} {f fe : EvF} {own : List Nat} {D : Addr} {s1 s3 s4 s5 : Mini.St} {x : Mini.D} {ys ds ws : List Mini.D} {env2 : Mini.Env} {σ2 : L2.St} {acc : List V} {Nx : Hp → Prop} {ρ3 : List Addr} {H3 : Hp}
    (ev1 : EV X.K fad Av ρ1 H1 env σ s1) (hD1 : H1 D = none) (x13 : Ext ρ1 ρ3 H1 H3) (ev : EV X.K fad (Av1 Av D) ρ3 H3 env2 σ2 s3) (how : ∀ (i : Nat) (d : Mini.D), env2[i]? = some (.ow d) → env[i]? = some (.ow d) ∧ σ2[i]? = σ[i]?)
    (hD : H3 D = some (.lst acc)) (ra : RepL X.K fad H3 (Bd (Av1 Av D) ρ3) ρ3 ds acc) (hix : ∀ i ∈ tgIx tg, i ∈ own)
    (e1 : f env2 s3 = some (x, s4)) (e2 : Mini.seqD x = some ys) (e3 : Mini.lcGo (fun d => Mini.asgT tg d (Mini.wipeE env2 own)) fc (fun env st => Mini.one (fe env st)) ys s4 = some (ws, s5)) (hz : (ds ++ ws).length ≤ sizeLine)
    (hNx : ∀ ρ5 H5 acc', Ext ρ1 ρ5 H1 H5 → SR X.K fad (Av1 Av D) ρ5 H5 s5 → H5 D = some (.lst acc') → RepL X.K fad H5 (Bd (Av1 Av D) ρ5) ρ5 (ds ++ ws) acc' → Nx H5) :
    tFI X.K fad false f σ2 H3 fun J1 H4 => ∃ W1 : Nat → Nat → Hp → Prop, (∃ m, W1 0 m H4) ∧ ∀ j k H, W1 j k H →
      (J1.stop j H ∧ Nx H) ∨ (J1.go j H ∧ ∃ Nx1 : Hp → Prop, (∀ H', Nx1 H' → ∃ k', k' < k ∧ W1 (j + 1) k' H') ∧ ∀ x H', J1.yld j H x H' → tFG X fad tg x (L2.wipe σ2 own) H' fun σ3 H5 => L2.wipe σ3 own = L2.wipe σ2 own ∧ tFC X fad fc σ3 H5 fun b H6 =>
        if b = true then tF X.K fad .val fe σ3 H6 fun y H7 => ∃ acc, H7 D = some (.lst acc) ∧ acc.length < sizeLine ∧ Nx1 (upd H7 D (.lst (acc ++ [y]))) else Nx1 H6) := by
  have n3 : D ∉ ρ3 := fun z => by
    obtain ⟨kvs, ek⟩ := ev.sr.dK z
    rw [ek] at hD; cases hD
  refine ⟨Av1 Av D, ρ3, env2, s3, x, ys, s4, ev, e1, e2, fun ρ4 H4 J x4 r4 S => ?_⟩
  have S : Src X.K fad J ys (LF X.K (Av1 Av D) ρ4 H4) := S
  have hD4 := x4.keep _ _ hD n3
  have ev4 := ev.ext x4 r4
  refine ⟨fun i m H2 => m = ys.length - i ∧ i ≤ ys.length ∧ ∃ ρi sti acc es zs, Gr X.K (Bd (Av1 Av D) ρ4) (Bd (Av1 Av D) ρi) ρ4 ρi H4 H2 ∧ Ext ρ1 ρi H1 H2 ∧ SR X.K fad (Av1 Av D) ρi H2 sti ∧ H2 D = some (.lst acc) ∧ RepL X.K fad H2 (Bd (Av1 Av D) ρi) ρi es acc ∧
    Mini.lcGo (fun d => Mini.asgT tg d (Mini.wipeE env2 own)) fc (fun env st => Mini.one (fe env st)) (ys.drop i) sti = some (zs, s5) ∧ es ++ zs = ds ++ ws, ⟨ys.length, by simp, Nat.zero_le _, ρ4, s4, acc, ds, ws, Gr.weak (K := X.K) fun _ h => h, ev1.sr.trans ev.sr.drop x13 x4, r4, hD4, ra.ext ev.sr x4, by simpa using e3, rfl⟩, ?_⟩
  rintro i m H2 ⟨rfl, hi', ρi, sti, acc, es, zs, gi, xi, ri, hDi, ra, eg, et⟩
  have hn : D ∉ ρi := fun z => by
    obtain ⟨kvs, ek⟩ := ri.dK z
    rw [ek] at hDi; cases hDi
  by_cases hlt : i < ys.length
  · refine .inr ⟨S.go ρi H2 _ gi i hlt, fun H' => ∃ ρj stj acc es zs, Gr X.K (Bd (Av1 Av D) ρ4) (Bd (Av1 Av D) ρj) ρ4 ρj H4 H' ∧ Ext ρ1 ρj H1 H' ∧ SR X.K fad (Av1 Av D) ρj H' stj ∧ H' D = some (.lst acc) ∧ RepL X.K fad H' (Bd (Av1 Av D) ρj) ρj es acc ∧
      Mini.lcGo (fun d => Mini.asgT tg d (Mini.wipeE env2 own)) fc (fun env st => Mini.one (fe env st)) (ys.drop (i + 1)) stj = some (zs, s5) ∧ es ++ zs = ds ++ ws, fun H' h' => ⟨ys.length - (i + 1), by omega, rfl, by omega, h'⟩, fun y H' hy => ?_⟩
    obtain ⟨dx, hdx, xy, ry, py⟩ := Src.itemF S gi ri hlt hy
    have hdx' : ys[i] = dx := by
      rw [List.getElem?_eq_getElem hlt] at hdx
      exact Option.some.inj hdx
    rw [mem_of_drop hlt, hdx'] at eg
    obtain ⟨env3, b, s6, g1, g2, g3⟩ := lcGo_cons eg
    have giy := gi.trans (xy.gr ri)
    have evb : EV X.K fad (Av1 Av D) ρi H' env σ sti := ev1.grO (ev1.sr.trans ri.drop xi xy) hD1 ry
    have evy : EV X.K fad (Av1 Av D) ρi H' env2 σ2 sti := ev4.mix giy evb how
    have hDy := xy.keep _ _ hDi hn
    have xiy := ev1.sr.trans ri.drop xi xy
    have ray : RepL X.K fad H' (Bd (Av1 Av D) ρi) ρi es acc := ra.ext ri xy
    have hle : acc.length = es.length := ra.length.symm
    refine lc_turn (s1 := s6) (b := b) (d := dx) (sti := sti) evy hDy py hix g1 g2 (fun hb ρ3 H3 x3 r3 => ?_) (fun hb => ?_)
    · subst hb
      rcases g3 with ⟨z, _⟩ | ⟨_, h1⟩
      · cases z
      · exact ⟨ρ3, s6, acc, es, zs, giy.trans (x3.gr ry), ev1.sr.trans ry.drop xiy x3, r3, x3.keep _ _ hDy hn, ray.ext ry x3, h1, et⟩
    · subst hb
      rcases g3 with ⟨_, ys', s7, ws', h1, h2, h3⟩ | ⟨z, _⟩
      · obtain ⟨y', h4, rfl⟩ := one_some h1
        refine ⟨by rw [← et, h3] at hz; simp at hz; omega, y', s7, h4, fun ρ7 H7 v x7 r7 p7 hD7 => ?_⟩
        have n4 : D ∉ ρ7 := x7.notin hDy hn
        have g4 := upd_gr (X := X) (Av := Av1 Av D) (ρ := ρ7) (o := .lst (acc ++ [v])) (p := D) (H := H7) (.inl (.inr rfl)) (by rw [hD7]; trivial)
        refine ⟨ρ7, s7, acc ++ [v], es ++ [y'], ws', (giy.trans (x7.gr ry)).trans g4, ?_, r7.updO (.inr rfl) n4 trivial, upd_same, ?_, h2, ?_⟩
        · exact (ev1.sr.trans ry.drop xiy x7).updN hD1
        · exact RepL.gr g4 _ _ ((ray.ext ry x7).append (.cons p7 .nil))
        · rw [← et, h3]; simp
      · cases z
  · have hi2 : ys.length ≤ i := by omega
    refine .inl ⟨S.stop ρi H2 _ gi i hi2, ?_⟩
    have ed : ys.drop i = [] := List.drop_eq_nil_of_le hi2
    rw [ed] at eg
    cases eg
    rw [List.append_nil] at et
    subst et
    exact hNx ρi H2 acc xi ri hDi ra
abbrev lc2F (own vs1 : List Nat) (tg tg1 : T) (f f1 : EvF) (fc fc1 : Mini.Env → Mini.St → Option (Bool × Mini.St)) (fe : EvF) : EvF := fun env st => (f env st).bind fun (x, s1) => (Mini.seqD x).bind fun xs =>
      Mini.guardLen (Mini.lcGo (fun d => Mini.asgT tg d (Mini.wipeE env own)) fc
        (fun env st => (f1 env st).bind fun (x, s1) => (Mini.seqD x).bind fun xs =>
          Mini.lcGo (fun d => Mini.asgT tg1 d (Mini.wipeE env vs1)) fc1 (fun env st => Mini.one (fe env st)) xs s1) xs s1)
theorem tLc2_F {own vs1 : List Nat} {tgT tgT1 : T} {f f1 fe : EvF} {fc fc1 : Mini.Env → Mini.St → Option (Bool × Mini.St)} {Q : VK} (hix : ∀ i ∈ tgIx tgT, i ∈ own) (hix1 : ∀ i ∈ tgIx tgT1, i ∈ vs1) (h : tFr X fad (lc2F own vs1 tgT tgT1 f f1 fc fc1 fe) σ H Q) :
    tLc2 (tFI X.K fad true f) (tFG X fad tgT) (tFC X fad fc) (tFI X.K fad false f1) (tFG X fad tgT1) (tFC X fad fc1) (tF X.K fad .val fe) own vs1 σ H Q := by
  obtain ⟨Av, ρ, env, st, d, st', ev, e, _, q⟩ := h
  obtain ⟨⟨x, s1⟩, e1, e⟩ := Option.bind_eq_some_iff.mp e
  obtain ⟨xs, e2, e⟩ := Option.bind_eq_some_iff.mp e
  obtain ⟨⟨total, s2⟩, e3, e⟩ := Option.bind_eq_some_iff.mp e
  obtain ⟨hz, e⟩ := ite_some e
  cases e
  refine ⟨Av, ρ, env, st, x, xs, s1, ev, e1, e2, fun ρ1 H1 J x1 r1 S => ?_⟩
  have S : Src X.K fad J xs (LC fad Av ρ1 H1) := S
  have ev1 := ev.ext x1 r1
  intro D hD
  refine ⟨fun i m H2 => m = xs.length - i ∧ i ≤ xs.length ∧ ∃ ρi sti acc ds zs, Ext ρ1 ρi H1 H2 ∧ SR X.K fad (Av1 Av D) ρi H2 sti ∧ H2 D = some (.lst acc) ∧ RepL X.K fad H2 (Bd (Av1 Av D) ρi) ρi ds acc ∧
    Mini.lcGo (fun d => Mini.asgT tgT d (Mini.wipeE env own)) fc (fun env st => (f1 env st).bind fun (x, s1) => (Mini.seqD x).bind fun xs =>
          Mini.lcGo (fun d => Mini.asgT tgT1 d (Mini.wipeE env vs1)) fc1 (fun env st => Mini.one (fe env st)) xs s1) (xs.drop i) sti = some (zs, st') ∧ ds ++ zs = total, ⟨xs.length, by simp, Nat.zero_le _, ρ1, s1, [], [], total, Ext.new hD, r1.own hD trivial, upd_same, .nil, by simpa using e3, rfl⟩, ?_⟩
  rintro i m H2 ⟨rfl, hi', ρi, sti, acc, ds, zs, xi, ri, hDi, ra, eg, et⟩
  have hn : D ∉ ρi := fun z => by
    obtain ⟨kvs, ek⟩ := ri.dK z
    rw [ek] at hDi; cases hDi
  have hL : LC fad Av ρ1 H1 ρi H2 (Bd (Av1 Av D) ρi) := ⟨xi, fun a ha => (bd_av1.mp ha).imp id fun (z : a = D) => z ▸ hD⟩
  by_cases hlt : i < xs.length
  · refine .inr ⟨S.go ρi H2 _ hL i hlt, fun H' => ∃ ρj stj acc ds zs, Ext ρ1 ρj H1 H' ∧ SR X.K fad (Av1 Av D) ρj H' stj ∧ H' D = some (.lst acc) ∧ RepL X.K fad H' (Bd (Av1 Av D) ρj) ρj ds acc ∧
      Mini.lcGo (fun d => Mini.asgT tgT d (Mini.wipeE env own)) fc (fun env st => (f1 env st).bind fun (x, s1) => (Mini.seqD x).bind fun xs =>
          Mini.lcGo (fun d => Mini.asgT tgT1 d (Mini.wipeE env vs1)) fc1 (fun env st => Mini.one (fe env st)) xs s1) (xs.drop (i + 1)) stj = some (zs, st') ∧ ds ++ zs = total, fun H' h' => ⟨xs.length - (i + 1), by omega, rfl, by omega, h'⟩, fun y H' hy => ?_⟩
    obtain ⟨dx, hdx, xy, ry, py⟩ := Src.item S xi hD ri hlt hy
    have hdx' : xs[i] = dx := by
      rw [List.getElem?_eq_getElem hlt] at hdx
      exact Option.some.inj hdx
    rw [mem_of_drop hlt, hdx'] at eg
    obtain ⟨env2, b, s3, g1, g2, g3⟩ := lcGo_cons eg
    have evi : EV X.K fad (Av1 Av D) ρi H2 env σ sti := ev1.grO xi hD ri
    have evy := evi.ext xy ry
    have hDy := xy.keep _ _ hDi hn
    have xiy := r1.trans ri.drop xi xy
    have ray : RepL X.K fad H' (Bd (Av1 Av D) ρi) ρi ds acc := ra.ext ri xy
    refine ⟨Av1 Av D, ρi, _, sti, dx, env2, evy.wipe own, py, g1, fun σ2 a => ⟨?_, ?_⟩⟩
    · rw [a.out _ hix]
      apply List.ext_getElem?
      intro j
      rw [wipe_get, wipe_length, wipe_get]
      by_cases hj : j ∈ own <;> simp [hj]
    refine ⟨Av1 Av D, ρi, env2, sti, b, s3, a.ev, g2, fun ρ3 H3 x3 r3 => ?_⟩
    have how : ∀ (i : Nat) (d : Mini.D), env2[i]? = some (.ow d) → env[i]? = some (.ow d) ∧ σ2[i]? = σ[i]? := fun j d' hj => by
      obtain ⟨h1, h2⟩ := a.ow j d' hj
      rw [wipeE_get] at h1
      by_cases hm : j ∈ own
      · rw [if_pos hm] at h1
        split at h1 <;> cases h1
      · rw [if_neg hm] at h1
        exact ⟨h1, h2.trans (by rw [wipe_get, if_neg hm])⟩
    rcases g3 with ⟨rfl, ys, s4, ws, h1, h2, h3⟩ | ⟨rfl, h1⟩
    · simp only [if_true]
      obtain ⟨⟨x2, s5⟩, k1, k⟩ := Option.bind_eq_some_iff.mp h1
      obtain ⟨ys2, k2, k3⟩ := Option.bind_eq_some_iff.mp k
      have hsz : (ds ++ ys).length ≤ sizeLine := by
        have : total.length ≤ sizeLine := hz
        rw [← et, h3] at this
        simp at this ⊢
        omega
      refine lc_inner (fe := fe) (fc := fc1) (f := f1) (ds := ds) (ws := ys) (s5 := s4) (acc := acc) ev1 hD (r1.trans ry.drop xiy x3) (a.ev.ext x3 r3) how (x3.keep _ _ hDy hn) (ray.ext ry x3) hix1 k1 k2 k3 hsz fun ρ5 H5 acc' x5 r5 d5 p5 => ?_
      exact ⟨ρ5, s4, acc', ds ++ ys, ws, x5, r5, d5, p5, h2, by rw [← et, h3, List.append_assoc]⟩
    · have : ∃ ρj stj acc ds zs, Ext ρ1 ρj H1 H3 ∧ SR X.K fad (Av1 Av D) ρj H3 stj ∧ H3 D = some (.lst acc) ∧ RepL X.K fad H3 (Bd (Av1 Av D) ρj) ρj ds acc ∧
        Mini.lcGo (fun d => Mini.asgT tgT d (Mini.wipeE env own)) fc (fun env st => (f1 env st).bind fun (x, s1) => (Mini.seqD x).bind fun xs =>
          Mini.lcGo (fun d => Mini.asgT tgT1 d (Mini.wipeE env vs1)) fc1 (fun env st => Mini.one (fe env st)) xs s1) (xs.drop (i + 1)) stj = some (zs, st') ∧ ds ++ zs = total := ⟨ρ3, s3, acc, ds, zs, r1.trans ry.drop xiy x3, r3, x3.keep _ _ hDy hn, ray.ext ry x3, h1, et⟩
      simpa using this
  · have hi2 : xs.length ≤ i := by omega
    refine .inl ⟨S.stop ρi H2 _ hL i hi2, ?_⟩
    have ed : xs.drop i = [] := List.drop_eq_nil_of_le hi2
    rw [ed] at eg
    cases eg
    rw [List.append_nil] at et
    subst et
    have hD0 : H D = none := by
      cases q0 : H D with
      | none => rfl
      | some o => exact absurd hD (ev.sr.kept x1 r1 D (by rw [q0]; simp))
    exact q ρi H2 D (ev.sr.trans r1 x1 xi) hD0 hn ri (.lst hDi ra)
theorem pe_lc2F {elt tg iter tg1 iter1 : Expr} {ifs ifs1 : List Expr} {scope : Scope} {own : List (Str × Nat)} {vs1 : List Nat} {pos : Pos} {tgT tgT1 : T} {f f1 fe : EvF} {fc fc1 : Mini.Env → Mini.St → Option (Bool × Mini.St)} (hc : X.calm = true) (hN : X.N.Nodup) (hi : PI X tg iter (tFI X.K fad true f)) (ok : BlkOk X.N X.env.scope scope own) (hv : ∀ i ∈ vs1, i ∈ own.map (·.2))
    (hg : ∀ (s : Shared) (H : Hp) (C : Addr) (cl : List (Str × Addr)) (fp : List Addr), PG (X.blk s H scope (compEnvC scope cl C X.env) fp) tg (tFG X fad tgT)) (ht : ∀ (s : Shared) (H : Hp) (C : Addr) (cl : List (Str × Addr)) (fp : List Addr), PTs (X.blk s H scope (compEnvC scope cl C X.env) fp) ifs (tFC X fad fc))
    (hi1 : ∀ (s : Shared) (H : Hp) (C : Addr) (cl : List (Str × Addr)) (fp : List Addr), PI (X.blk s H scope (compEnvC scope cl C X.env) fp) tg1 iter1 (tFI X.K fad false f1))
    (hg1 : ∀ (s : Shared) (H : Hp) (C : Addr) (cl : List (Str × Addr)) (fp : List Addr), PG (X.blk s H scope (compEnvC scope cl C X.env) fp) tg1 (tFG X fad tgT1)) (ht1 : ∀ (s : Shared) (H : Hp) (C : Addr) (cl : List (Str × Addr)) (fp : List Addr), PTs (X.blk s H scope (compEnvC scope cl C X.env) fp) ifs1 (tFC X fad fc1))
    (he : ∀ (s : Shared) (H : Hp) (C : Addr) (cl : List (Str × Addr)) (fp : List Addr), PE (X.blk s H scope (compEnvC scope cl C X.env) fp) elt (tF X.K fad .val fe)) (hix : ∀ i ∈ tgIx tgT, i ∈ own.map (·.2)) (hix1 : ∀ i ∈ tgIx tgT1, i ∈ vs1) (hs : ∀ x, foldedSetIterable iter X.env x = pure x) (hs1 : ∀ env x, foldedSetIterable iter1 env x = pure x) :
    PE X (.ListComp elt [⟨tg, iter, ifs, 0⟩, ⟨tg1, iter1, ifs1, 0⟩] scope pos) (tFr X fad (lc2F (own.map (·.2)) vs1 tgT tgT1 f f1 fc fc1 fe)) := (pe_lc2 hc hN hi ok hv hg ht hi1 hg1 ht1 he hs hs1).imp fun σ H Q h => tLc2_F hix hix1 h
end
end Snd
end

section
set_option autoImplicit false
set_option Elab.async false
set_option linter.all false
set_option maxRecDepth 100000
set_option maxHeartbeats 1000000
/-! DcX: {tuple: value for ..}: dict comprehensions whose keys are tuples. -/
namespace DcX
open PySem PySem.Spec PyProof.Rows L2
section
variable {X : Cx} {pins : List (Addr × Obj)} {σ : L2.St} {H : Hp} {s : Shared}
theorem setT {E : Value → Shared → Prop} {D b : Addr} {kvs : List (List Key × V)} {k : List Key} {v : V} {r : Value} {Q : Unit → Shared → Prop} (hu : X.A.units < cLine) (I : Inv X pins σ H s) (hD : H D = some (.dT kvs)) (hb : H b = some (.tup (k.map kV))) (hz : kvs.length < sizeLine)
    (rv : RelV v r) (h : ∀ s', Inv X pins σ (upd H D (.dT (putK kvs k v))) s' → Q () s') : wpAny (model X.prog X.w) X.A (dictSet D (.ref b) r) Q E s := by
  obtain ⟨z, hd, xs, rel, dd⟩ := dt_of I.hok hD
  refine wpAny_dictSet_heap (hsz := (Paired.length rel) ▸ z) (show (tupleKind (mixKind X.prog X.w)).room X.A from hu) (key_of I.hok hb) dd fun hp dq sb => h _ ?_
  obtain ⟨ob, es, ep, g1, g2, g3, g4, _, g5⟩ := dq
  refine d_write I (by rw [hD]; exact True.intro) sb ⟨ob, g1⟩ ⟨Nat.le_trans (length_putK kvs k v) hz, hd, _, (rel.put k hb rv).keeps fun c ys ec => ?_, ob, es, ep, g1, g2, g3, g4, g5⟩
  rw [upd_ne (ne_of ec hD fun q => nomatch q)]
  exact ec
/-- {k: v for target in iter if ..}, keys tuples of ints and texts -/
def tDcT (wi : TI) (g : TG) (tt : TT) (tk tv : TE) (vs : List Nat) : TE := fun σ H Q => wi σ H fun J G => ∀ D, G D = none → ∃ W : Nat → Nat → Hp → Prop, (∃ m, W 0 m (upd G D (.dT []))) ∧ ∀ i m G, W i m G →
  (J.stop i G ∧ Q (.ref D) G) ∨ (J.go i G ∧ ∃ Nx : Hp → Prop, (∀ G', Nx G' → ∃ m', m' < m ∧ W (i + 1) m' G') ∧ ∀ x G', J.yld i G x G' → g x (wipe σ vs) G' fun σ2 G2 => wipe σ2 vs = wipe σ vs ∧ tt σ2 G2 fun b G3 =>
    if b = true then tk σ2 G3 fun y G4 => tv σ2 G4 fun z G5 => ∃ kvs k q, y = V.ref q ∧ G5 q = some (.tup (k.map kV)) ∧ G5 D = some (.dT kvs) ∧ kvs.length < sizeLine ∧ Nx (upd G5 D (.dT (putK kvs k z))) else Nx G3)
/-- for every block of this scope -/
abbrev InBlk (X : Cx) (scope : Scope) (P : Cx → Prop) : Prop := ∀ (s : Shared) (H : Hp) (C : Addr) (cl : List (Str × Addr)) (fp : List Addr), P (X.blk s H scope (compEnvC scope cl C X.env) fp)
/-- a loop's turns inside a block; B: the block, L0: its own names' slots -/
theorem turns {B : Cx} {J : It} {kx vx tg iter : Expr} {ifs : List Expr} {scope : Scope} {pos : Pos} {g : TG} {tt : TT} {tk tv : TE} {vs : List Nat} {fp : List Addr} {it D : Addr} {tn : Nat → Heap → Prop} {W : Nat → Nat → Hp → Prop} {m0 : Nat} {G0 : Hp} {t0 : Shared} {Fin : Result → Shared → Prop} {Qd : Hp → Prop}
    (hc : B.calm = true) (hu : B.A.units < cLine) (Tn : Turn B.prog B.w B.K tg J fp it tn) (hx : B.xe = fun _ _ => False) (hpn : B.pn = []) (hex : B.ex = fp) (pg : PG B tg g) (pt : PTs B ifs tt) (pk : PE B kx tk) (pe : PE B vx tv)
    (I0 : Inv B [] (wipe σ vs) G0 t0) (st0 : tn 0 t0.heap) (n0 : ∀ b ∈ fp, G0 b = none) (w0 : W 0 m0 G0)
    (step : ∀ i m G, W i m G → (J.stop i G ∧ Qd G) ∨ (J.go i G ∧ ∃ Nx : Hp → Prop, (∀ G', Nx G' → ∃ m', m' < m ∧ W (i + 1) m' G') ∧ ∀ x G', J.yld i G x G' → g x (wipe σ vs) G' fun σ2 G2 => wipe σ2 vs = wipe σ vs ∧ tt σ2 G2 fun b G3 =>
      if b = true then tk σ2 G3 fun y G4 => tv σ2 G4 fun z G5 => ∃ kvs k q, y = V.ref q ∧ G5 q = some (.tup (k.map kV)) ∧ G5 D = some (.dT kvs) ∧ kvs.length < sizeLine ∧ Nx (upd G5 D (.dT (putK kvs k z))) else Nx G3))
    (fin : ∀ G t, Inv B [] (wipe σ vs) G t → Qd G → Fin (.ok .next) t) :
    codeAny (model B.prog B.w) B.A (.compLoop (.DictComp kx vx [⟨tg, iter, ifs, 0⟩] scope pos) 0 (.ref it) (.ref D) B.env) Fin t0 := by
  have still : ∀ {τ : L2.St} {G : Hp} {t : Shared}, Inv B [] τ G t → (∀ b ∈ fp, G b = none) → ∀ b ∈ fp, FpOk B [] G b := fun {τ G t} J hn b hb => by
    have hb' : b ∈ B.ex := by rw [hex]; exact hb
    exact ⟨hn b hb, (J.ok.exf b hb').1, J.ok.exfs b hb', .inl hb', fun x c e => (J.ok.exf b hb').2 x c e, fun p hp => by rw [hpn] at hp; cases hp⟩
  refine compLoop_anyD (fun n t => ∃ i G, Inv B [] (wipe σ vs) G t ∧ tn i t.heap ∧ (∀ b ∈ fp, G b = none) ∧ W i n G) (fun n t5 h5 => ?_) m0 ⟨0, G0, I0, st0, n0, w0⟩
  obtain ⟨i, G5, J5, k5, z5, w5⟩ := h5
  rcases step i n G5 w5 with ⟨ends, qq⟩ | ⟨more, Nx, again, body⟩
  · refine thnF (Tn.done B rfl rfl rfl hc i [] t5 _ G5 (fun _ _ => False) J5 (still J5 z5) k5 ends) fun r t6 ⟨er, J6⟩ => ?_
    subst er
    exact fin G5 t6 J6 qq
  · refine thnF (Tn.item B rfl rfl rfl hc i [] t5 _ G5 (fun _ _ => False) J5 (still J5 z5) k5 more) fun r t6 ⟨u, er, g6⟩ => ?_
    subst er
    refine thnF g6 fun _ t7 ⟨x, G7, J7, r7, y7, k7, z7⟩ => ?_
    have obs := Tn.obj _ _ k7
    have P7 := J7.pinned (still J7 z7) obs
    have hx' : ∀ {α : Type} {m : Sem α} {Q Q' : α → Shared → Prop} {E : Value → Shared → Prop} {t : Shared}, wpAny (model B.prog B.w) B.A m Q B.xe t → (∀ a t', Q a t' → Q' a t') → wpAny (model B.prog B.w) B.A m Q' E t := fun {α m Q Q' E t} h hq => by
      rw [hx] at h
      exact thnF h hq
    refine hx' (pg.run _ t7 _ G7 x u _ P7 r7 (body x G7 y7)) fun _ t8 ⟨τ, G8, J8, hw, q8⟩ => ?_
    refine hx' (pt.run _ t8 τ G8 _ J8 q8) fun b t9 ⟨G9, J9, q9⟩ => ?_
    have next : ∀ {t' : Shared} {G' : Hp}, Inv B ([] ++ pinsAt fp t7.heap) τ G' t' → Nx G' → ∃ m, m < n ∧ ∃ i G', Inv B [] (wipe σ vs) G' t' ∧ tn i t'.heap ∧ (∀ b ∈ fp, G' b = none) ∧ W i m G' := fun {t' G'} J' nx => by
      obtain ⟨m', lt, w'⟩ := again G' nx
      have held : ∀ b ∈ fp, ∀ o, t7.heap.get? b = some o → t'.heap.get? b = some o ∧ G' b = none := fun b hb o e =>
        have z := J'.pin (b, o) (List.mem_append_right _ (List.mem_append_right _ (mem_pinsAt hb e)))
        ⟨z.1, z.2.1⟩
      refine ⟨m', lt, i + 1, G', (J'.unpinned (pins := [])).weak (by rw [← hw, wipe_length]) (fun j v e => (wipe_some (vs := vs) (by rw [hw]; exact e)).1), Tn.keep _ _ _ k7 fun b hb o e => (held b hb o e).1, fun b hb => ?_, w'⟩
      obtain ⟨o, e, _⟩ := obs b hb
      exact (held b hb o e).2
    cases b with
    | false =>
      simp only [Bool.false_eq_true, if_false] at q9 ⊢
      exact next J9 q9
    | true =>
      simp only [if_true] at q9 ⊢
      refine hx' (pk.run _ t9 τ G9 _ J9 q9) fun u2 ta ⟨yk, Ga, Ja, ra, qa⟩ => ?_
      refine hx' (pe.run _ ta τ Ga _ Ja qa) fun u3 tb ⟨yv, Gb, Jb, rb, kvs, k, q, ek, eq', eD, ez, nx⟩ => ?_
      subst ek
      cases ra
      exact setT hu Jb eD eq' ez rb fun tc Jc => next Jc nx
theorem core {kx vx tg iter : Expr} {ifs : List Expr} {scope : Scope} {own : List (Str × Nat)} {pos : Pos} {wi : TI} {g : TG} {tt : TT} {tk tv : TE} {use : Option (Value → Sem Unit)} {Qf : Value → Shared → Prop} {pos' : Pos} {Q : VK} (I : Inv X pins σ H s) (hc : X.calm = true) (hu : X.A.units < cLine) (hN : X.N.Nodup) (hi : PI X tg iter wi) (ok : BlkOk X.N X.env.scope scope own)
    (hg : InBlk X scope fun B => PG B tg g) (ht : InBlk X scope fun B => PTs B ifs tt) (hk : InBlk X scope fun B => PE B kx tk) (he : InBlk X scope fun B => PE B vx tv) (hs : ∀ x, foldedSetIterable iter X.env x = pure x)
    (h : tDcT wi g tt tk tv (own.map (·.2)) σ H Q) (out : ∀ D C s' m H', Inv X pins σ H' s' → Q (.ref D) H' → s'.heap.Ns C m → FpOk X pins H' C → compPost (model X.prog X.w) X.A X.xe use Qf (.ref D) C (.ok .next) s') :
    wpAny (model X.prog X.w) X.A (comprehension (.DictComp kx vx [⟨tg, iter, ifs, 0⟩] scope pos) scope X.env pos' newDict false (eval iter X.env) use) Qf X.xe s := by
  have closed : ∀ y ∈ scope.names, y.2 = .free → ∃ c, X.env.cells.lookup y.1 = some c := fun y hy e => by
    rcases ok.free y hy e with k | k
    · exact I.ok.has _ (.inl k)
    · exact I.ok.has _ (.inr k)
  refine wpAny_comprehension_free (use := use) rfl hs (closure_ok closed) ok.kind (fun y hy e => by rw [ok.uniq y hy, e]) (thn (hi.run pins s σ H _ I h) fun xv s1 hx => thn hx fun itv t2 h2 => ?_)
  obtain ⟨it, fp, tn, J, G, e, J2, Tn, k2, f2, q⟩ := h2
  subst e
  refine wpAny_newObj_type (newEnv_comp ?_)
  generalize hD : t2.heap.objs.size = D
  obtain ⟨W, ⟨m0, w0⟩, step⟩ := q D (J2.hok.fresh (Nat.le_of_eq hD))
  generalize e3 : ({ t2 with heap := t2.heap.push { cls := .type "dict", data := .dict #[] } } : Shared) = t3
  have p3 : t3.heap = t2.heap.push { cls := .type "dict", data := .dict #[] } := by rw [← e3]
  have J3 : Inv X pins σ (upd G D (.dT [])) t3 := by
    rw [← e3]
    refine J2.laid (t' := t2.toks) (fun b o e => Heap.get?_push_of_some _ e) (Nat.le_of_eq hD) ?_
    rw [← hD]
    exact dt_empty t2.heap J2.big
  have low : ∀ b ∈ fp, b < t2.heap.objs.size := fun b hb => let ⟨o, e, _⟩ := Tn.obj _ _ k2 b hb; Heap.lt_size e
  have f3 : ∀ b ∈ fp, FpOk X pins (upd G D (.dT [])) b ∧ b < t3.heap.objs.size := fun b hb => by
    refine ⟨⟨?_, (f2 b hb).2⟩, by rw [p3, Heap.size_push]; exact Nat.lt_succ_of_lt (low b hb)⟩
    rw [upd_ne (by rw [← hD]; exact Nat.ne_of_lt (low b hb))]
    exact (f2 b hb).1
  have J4 := block_start J3 ok hN f3
  have k3 : tn 0 (pushCells (t3.heap.push { cls := .type "dict", data := .dict #[] }) scope.names) := Tn.keep _ _ _ k2 fun b _ o e => pushCells_keeps _ _ _ _ (Heap.get?_push_of_some _ (by rw [p3]; exact Heap.get?_push_of_some _ e))
  have G0 := hg t3 (upd G D (.dT [])) t3.heap.objs.size (cellsFrom (t3.heap.objs.size + 1) scope.names (cloFrom X.env.cells scope.names [])) fp
  have T0 := ht t3 (upd G D (.dT [])) t3.heap.objs.size (cellsFrom (t3.heap.objs.size + 1) scope.names (cloFrom X.env.cells scope.names [])) fp
  have K0 := hk t3 (upd G D (.dT [])) t3.heap.objs.size (cellsFrom (t3.heap.objs.size + 1) scope.names (cloFrom X.env.cells scope.names [])) fp
  have E0 := he t3 (upd G D (.dT [])) t3.heap.objs.size (cellsFrom (t3.heap.objs.size + 1) scope.names (cloFrom X.env.cells scope.names [])) fp
  have loop : codeAny (model X.prog X.w) X.A (.compLoop (.DictComp kx vx [⟨tg, iter, ifs, 0⟩] scope pos) 0 (.ref it) (.ref D) (compEnvC scope (cellsFrom (t3.heap.objs.size + 1) scope.names (cloFrom X.env.cells scope.names [])) t3.heap.objs.size X.env))
      (compPost (model X.prog X.w) X.A X.xe use Qf (.ref D) t3.heap.objs.size) { t3 with heap := pushCells (t3.heap.push { cls := .type "dict", data := .dict #[] }) scope.names } := by
    refine turns (B := X.blk t3 (upd G D (.dT [])) scope (compEnvC scope (cellsFrom (t3.heap.objs.size + 1) scope.names (cloFrom X.env.cells scope.names [])) t3.heap.objs.size X.env) fp) (σ := σ) (Qd := fun G => Q (.ref D) G) hc hu Tn rfl rfl rfl G0 T0 K0 E0 J4 k3 (fun b hb => (f3 b hb).1.1) w0 step fun G6 t6 J6 q6 => ?_
    have J7 : Inv X pins σ G6 t6 := J3.call' (ch := fp) J6.os J6.base J6.hok J6.bare fun b hb => ⟨(f3 b hb).1.2.2.2.1, (f3 b hb).1.2.1, (f3 b hb).1.2.2.2.2.1, (f3 b hb).1.2.2.2.2.2⟩
    have nC : G6 t3.heap.objs.size = none := J6.free
    obtain ⟨m, hn, _⟩ := J6.loc
    exact out D t3.heap.objs.size t6 m G6 J7 q6 hn (J3.fpOk (Nat.le_refl _) nC)
  exact codeAny_compStart_dict loop (Tn.self X.A 0 _ _ _ k3 loop)
/-- as a value -/
theorem pe_dcT {kx vx tg iter : Expr} {ifs : List Expr} {scope : Scope} {own : List (Str × Nat)} {pos : Pos} {wi : TI} {g : TG} {tt : TT} {tk tv : TE} (hc : X.calm = true) (hu : X.A.units < cLine) (hN : X.N.Nodup) (hi : PI X tg iter wi) (ok : BlkOk X.N X.env.scope scope own)
    (hg : InBlk X scope fun B => PG B tg g) (ht : InBlk X scope fun B => PTs B ifs tt) (hk : InBlk X scope fun B => PE B kx tk) (he : InBlk X scope fun B => PE B vx tv) (hs : ∀ x, foldedSetIterable iter X.env x = pure x) :
    PE X (.DictComp kx vx [⟨tg, iter, ifs, 0⟩] scope pos) (tDcT wi g tt tk tv (own.map (·.2))) := by
  refine ⟨fun pins s σ H Q I h => ?_⟩
  rw [arm_eval_DictComp]
  refine core I hc hu hN hi ok hg ht hk he hs h fun D C t6 m G J q hn f => ?_
  obtain ⟨f0, f1, _, f3, f4, f5⟩ := f
  exact ⟨m, hn, fun h'' sb => ⟨.ref D, G, J.turned (t' := t6.toks) (fun b o hb e => (sb.2 b hb).trans e) f0 f1 f3 f4 f5, rfl, q⟩⟩
/-- name = {..} on one line, the name a local -/
theorem ps_setDcT {i : Nat} {y : Str} {py spos : Pos} {kx vx tg iter : Expr} {ifs : List Expr} {scope : Scope} {own : List (Str × Nat)} {pos : Pos} {wi : TI} {g : TG} {tt : TT} {tk tv : TE} (hc : X.calm = true) (hu : X.A.units < cLine) (hN : X.N.Nodup) (hy : X.N[i]? = some y) (hyl : X.env.scope.names.lookup y = some .local)
    (hsw : swapsWith (.DictComp kx vx [⟨tg, iter, ifs, 0⟩] scope pos) (some (.Name y py)) spos.line X.env = pure true) (hi : PI X tg iter wi) (ok : BlkOk X.N X.env.scope scope own)
    (hg : InBlk X scope fun B => PG B tg g) (ht : InBlk X scope fun B => PTs B ifs tt) (hk : InBlk X scope fun B => PE B kx tk) (he : InBlk X scope fun B => PE B vx tv) (hs : ∀ x, foldedSetIterable iter X.env x = pure x) :
    PS X (.Assign [.Name y py] (.DictComp kx vx [⟨tg, iter, ifs, 0⟩] scope pos) spos) (tAsg (tDcT wi g tt tk tv (own.map (·.2))) (gName i)) := by
  refine ⟨fun pins s σ H E I h => ?_⟩
  rw [exec_Assign_Name_used _ _ _ _ hsw]
  refine wpAny_bind (wpAny_standAt (wpAny_bind ?_))
  show wpAny _ X.A (do let _ ← comprehension (.DictComp kx vx [⟨tg, iter, ifs, 0⟩] scope pos) scope X.env (firstIterPos [⟨tg, iter, ifs, 0⟩] pos) newDict false (eval iter X.env) (some (assign (.Name y py) X.env))) _ _ s
  have h : tDcT wi g tt tk tv (own.map (·.2)) σ H (fun x G => gName i x σ G E.nx) := h
  refine wpAny_bind (thn (core (Qf := fun _ t => SP X pins E .next t) I hc hu hN hi ok hg ht hk he hs h fun D C t6 m G J q hn f => ?_) fun _ t hq => wpAny_pure (wpAny_pure hq))
  show wpAny _ _ (assign (.Name y py) X.env (.ref D)) _ _ _
  refine wpAny_assign_Name (store_ok2 (v := V.ref D) J hN hy (.inl hyl) rfl (fun t7 J7 ⟨a, sb, ha⟩ => ?_) (.inr hyl))
  obtain ⟨f0, f1, _, f3, f4, f5⟩ := f
  refine ⟨m, hn.sameBut sb (ha.elim (fun z => z ▸ f1) fun z e => f4 y a z e.symm), fun h3 sb3 => ?_⟩
  exact ⟨_, G, J7.turned (t' := t7.toks) (fun b o hb e => (sb3.2 b hb).trans e) f0 f1 f3 f4 f5, q⟩
end
end DcX
end

section
set_option autoImplicit false
set_option Elab.async false
set_option linter.all false
set_option maxRecDepth 100000
set_option maxHeartbeats 1000000
/-! Snd14: dict comprehensions. -/
namespace Snd
open PySem PySem.Spec PyProof.Rows L2
open Mini (D Sl T)
section
variable {fad : Nat → Addr} {H H' H0 H1 H2 : Hp} {Av Bad : Addr → Prop} {ρ ρ' ρ1 ρ2 : List Addr} {st st' : Mini.St} {X : Cx} {pins : List (Addr × Obj)} {σ σ' : L2.St} {s : Shared} {env env' : Mini.Env} {p : Addr} {o : HO}
theorem put_length (kvs : List (D × D)) (k v : D) : kvs.length ≤ (Mini.put kvs k v).length := by
  unfold Mini.put
  split
  · rw [List.length_map]; exact Nat.le_refl _
  · rw [List.length_append]; omega
section
variable {asg : D → Option Mini.Env} {test : Mini.Env → Mini.St → Option (Bool × Mini.St)} {ky vl : EvF}
theorem dcGo_cons {x : D} {xs : List D} {acc total : List (D × D)} (h : Mini.dcGo asg test ky vl (x :: xs) st acc = some (total, st')) : ∃ env b s1, asg x = some env ∧ test env st = some (b, s1) ∧
    ((b = true ∧ ∃ k s2 v s3, ky env s1 = some (k, s2) ∧ vl env s2 = some (v, s3) ∧ Mini.isKeyTup k = true ∧ Mini.dcGo asg test ky vl xs s3 (Mini.put acc k v) = some (total, st')) ∨ (b = false ∧ Mini.dcGo asg test ky vl xs s1 acc = some (total, st'))) := by
  unfold Mini.dcGo at h
  obtain ⟨env, e1, h⟩ := Option.bind_eq_some_iff.mp h
  obtain ⟨⟨b, s1⟩, e2, h⟩ := Option.bind_eq_some_iff.mp h
  refine ⟨env, b, s1, e1, e2, ?_⟩
  cases b with
  | true =>
    simp only [if_true] at h
    obtain ⟨⟨k, s2⟩, e3, h⟩ := Option.bind_eq_some_iff.mp h
    obtain ⟨⟨v, s3⟩, e4, h⟩ := Option.bind_eq_some_iff.mp h
    by_cases hk : Mini.isKeyTup k = true
    · simp only [hk, if_true] at h
      exact .inl ⟨rfl, k, s2, v, s3, e3, e4, hk, h⟩
    · simp only [hk] at h
      cases h
  | false =>
    simp only [Bool.false_eq_true, if_false] at h
    exact .inr ⟨rfl, h⟩
theorem dcGo_length : ∀ {xs : List D} {st st' : Mini.St} {acc total : List (D × D)}, Mini.dcGo asg test ky vl xs st acc = some (total, st') → acc.length ≤ total.length
  | [], _, _, _, _, h => by cases h; exact Nat.le_refl _
  | x :: xs, st, st', acc, total, h => by
    obtain ⟨_, b, s1, _, _, h⟩ := dcGo_cons h
    rcases h with ⟨_, k, s2, v, s3, _, _, _, h⟩ | ⟨_, h⟩
    · exact Nat.le_trans (put_length acc k v) (dcGo_length h)
    · exact dcGo_length h
end
abbrev dcF (own : List Nat) (tg : T) (f : EvF) (fc : Mini.Env → Mini.St → Option (Bool × Mini.St)) (fk fv : EvF) : EvF := fun env st => (f env st).bind fun (x, s1) => (Mini.seqD x).bind fun xs =>
      (Mini.dcGo (fun d => Mini.asgT tg d (Mini.wipeE env own)) fc fk fv xs s1 []).bind fun (kvs, s2) => if kvs.length < Mini.LIM then some (.dct kvs, s2) else none
theorem tDc_F {own : List Nat} {tgT : T} {f fk fv : EvF} {fc : Mini.Env → Mini.St → Option (Bool × Mini.St)} {Q : VK} (hix : ∀ i ∈ tgIx tgT, i ∈ own) (h : tFr X fad (dcF own tgT f fc fk fv) σ H Q) :
    DcX.tDcT (tFI X.K fad true f) (tFG X fad tgT) (tFC X fad fc) (tF X.K fad .val fk) (tF X.K fad .val fv) own σ H Q := by
  obtain ⟨Av, ρ, env, st, d, st', ev, e, _, q⟩ := h
  obtain ⟨⟨x, s1⟩, e1, e⟩ := Option.bind_eq_some_iff.mp e
  obtain ⟨xs, e2, e⟩ := Option.bind_eq_some_iff.mp e
  obtain ⟨⟨total, s2⟩, e3, e⟩ := Option.bind_eq_some_iff.mp e
  obtain ⟨hz, e⟩ := ite_some e
  cases e
  refine ⟨Av, ρ, env, st, x, xs, s1, ev, e1, e2, fun ρ1 H1 J x1 r1 S => ?_⟩
  have S : Src X.K fad J xs (LC fad Av ρ1 H1) := S
  have ev1 := ev.ext x1 r1
  intro D hD
  refine ⟨fun i m H2 => m = xs.length - i ∧ i ≤ xs.length ∧ ∃ ρi sti ws kvs, Ext ρ1 ρi H1 H2 ∧ SR X.K fad (Av1 Av D) ρi H2 sti ∧ H2 D = some (.dT ws) ∧ RepK X.K fad H2 (Bd (Av1 Av D) ρi) ρi kvs ws ∧
    Mini.dcGo (fun d => Mini.asgT tgT d (Mini.wipeE env own)) fc fk fv (xs.drop i) sti kvs = some (total, st'), ⟨xs.length, by simp, Nat.zero_le _, ρ1, s1, [], [], Ext.new hD, r1.own hD trivial, upd_same, .nil, by simpa using e3⟩, ?_⟩
  rintro i m H2 ⟨rfl, hi', ρi, sti, ws, kvs, xi, ri, hDi, ra, eg⟩
  have hn : D ∉ ρi := fun z => by
    obtain ⟨kvs, ek⟩ := ri.dK z
    rw [ek] at hDi; cases hDi
  have hL : LC fad Av ρ1 H1 ρi H2 (Bd (Av1 Av D) ρi) := ⟨xi, fun a ha => (bd_av1.mp ha).imp id fun (z : a = D) => z ▸ hD⟩
  by_cases hlt : i < xs.length
  · refine .inr ⟨S.go ρi H2 _ hL i hlt, fun H' => ∃ ρj stj ws kvs, Ext ρ1 ρj H1 H' ∧ SR X.K fad (Av1 Av D) ρj H' stj ∧ H' D = some (.dT ws) ∧ RepK X.K fad H' (Bd (Av1 Av D) ρj) ρj kvs ws ∧
      Mini.dcGo (fun d => Mini.asgT tgT d (Mini.wipeE env own)) fc fk fv (xs.drop (i + 1)) stj kvs = some (total, st'), fun H' h' => ⟨xs.length - (i + 1), by omega, rfl, by omega, h'⟩, fun y H' hy => ?_⟩
    obtain ⟨dx, hdx, xy, ry, py⟩ := Src.item S xi hD ri hlt hy
    have hdx' : xs[i] = dx := by
      rw [List.getElem?_eq_getElem hlt] at hdx
      exact Option.some.inj hdx
    rw [mem_of_drop hlt, hdx'] at eg
    obtain ⟨env2, b, s3, g1, g2, g3⟩ := dcGo_cons eg
    have evi : EV X.K fad (Av1 Av D) ρi H2 env σ sti := ev1.grO xi hD ri
    have evy := evi.ext xy ry
    have hDy := xy.keep _ _ hDi hn
    have xiy := r1.trans ri.drop xi xy
    have ray : RepK X.K fad H' (Bd (Av1 Av D) ρi) ρi kvs ws := ra.ext ri xy
    refine ⟨Av1 Av D, ρi, _, sti, dx, env2, evy.wipe own, py, g1, fun σ2 a => ⟨?_, ?_⟩⟩
    · rw [a.out _ hix]
      apply List.ext_getElem?
      intro j
      rw [wipe_get, wipe_length, wipe_get]
      by_cases hj : j ∈ own <;> simp [hj]
    refine ⟨Av1 Av D, ρi, env2, sti, b, s3, a.ev, g2, fun ρ3 H3 x3 r3 => ?_⟩
    rcases g3 with ⟨rfl, k, s4, v, s5, h1, h2, h3, h4⟩ | ⟨rfl, h1⟩
    · simp only [if_true]
      have ev3 := a.ev.ext x3 r3
      refine ⟨Av1 Av D, ρ3, env2, s3, k, s4, ev3, h1, fun ρ4 H4 vk x4 r4 p4 => ?_⟩
      have p4 : Rep X.K fad H4 (Bd (Av1 Av D) ρ4) ρ4 k vk := p4
      refine ⟨Av1 Av D, ρ4, env2, s4, v, s5, ev3.ext x4 r4, h2, fun ρ5 H5 vv x5 r5 p5 => ?_⟩
      have p5 : Rep X.K fad H5 (Bd (Av1 Av D) ρ5) ρ5 v vv := p5
      obtain ⟨ks, q', ek, rfl, hq⟩ := RepW.key h3 (.of (p4.ext r4 x5))
      have x35 := ry.trans r4 (ry.trans r3 x3 x4) x5
      have hD5 := x35.keep _ _ hDy hn
      have n5 : D ∉ ρ5 := x35.notin hDy hn
      have ra5 : RepK X.K fad H5 (Bd (Av1 Av D) ρ5) ρ5 kvs ws := ray.ext ry x35
      have hlen : kvs.length ≤ total.length := dcGo_length eg
      have hlw : ws.length = kvs.length := ra5.length.symm
      have g5 := upd_gr (X := X) (Av := Av1 Av D) (ρ := ρ5) (o := .dT (putK ws ks vv)) (p := D) (H := H5) (.inl (.inr rfl)) (by rw [hD5]; trivial)
      refine ⟨ws, ks, q', rfl, hq, hD5, ?_, ρ5, s5, putK ws ks vv, Mini.put kvs k v, ?_, r5.updO (.inr rfl) n5 trivial, upd_same, ?_, h4⟩
      · have : total.length < sizeLine := hz
        omega
      · exact (r1.trans ry.drop xiy x35).updN hD
      · exact RepK.gr g5 _ _ (ra5.put ek p5)
    · have : ∃ ρj stj ws kvs, Ext ρ1 ρj H1 H3 ∧ SR X.K fad (Av1 Av D) ρj H3 stj ∧ H3 D = some (.dT ws) ∧ RepK X.K fad H3 (Bd (Av1 Av D) ρj) ρj kvs ws ∧
        Mini.dcGo (fun d => Mini.asgT tgT d (Mini.wipeE env own)) fc fk fv (xs.drop (i + 1)) stj kvs = some (total, st') := ⟨ρ3, s3, ws, kvs, r1.trans ry.drop xiy x3, r3, x3.keep _ _ hDy hn, ray.ext ry x3, h1⟩
      simpa using this
  · have hi2 : xs.length ≤ i := by omega
    refine .inl ⟨S.stop ρi H2 _ hL i hi2, ?_⟩
    have ed : xs.drop i = [] := List.drop_eq_nil_of_le hi2
    rw [ed] at eg
    cases eg
    have hD0 : H D = none := by
      cases q0 : H D with
      | none => rfl
      | some o => exact absurd hD (ev.sr.kept x1 r1 D (by rw [q0]; simp))
    exact q ρi H2 D (ev.sr.trans r1 x1 xi) hD0 hn ri (.dct hDi ra)
theorem pe_dcF {kx vx tg iter : Expr} {ifs : List Expr} {scope : Scope} {own : List (Str × Nat)} {pos : Pos} {tgT : T} {f fk fv : EvF} {fc : Mini.Env → Mini.St → Option (Bool × Mini.St)} (hc : X.calm = true) (hu : X.A.units < cLine) (hN : X.N.Nodup) (hi : PI X tg iter (tFI X.K fad true f)) (ok : BlkOk X.N X.env.scope scope own)
    (hg : DcX.InBlk X scope fun B => PG B tg (tFG X fad tgT)) (ht : DcX.InBlk X scope fun B => PTs B ifs (tFC X fad fc)) (hk : DcX.InBlk X scope fun B => PE B kx (tF X.K fad .val fk)) (he : DcX.InBlk X scope fun B => PE B vx (tF X.K fad .val fv)) (hix : ∀ i ∈ tgIx tgT, i ∈ own.map (·.2)) (hs : ∀ x, foldedSetIterable iter X.env x = pure x) :
    PE X (.DictComp kx vx [⟨tg, iter, ifs, 0⟩] scope pos) (tFr X fad (dcF (own.map (·.2)) tgT f fc fk fv)) := (DcX.pe_dcT hc hu hN hi ok hg ht hk he hs).imp fun σ H Q h => tDc_F hix h
end
end Snd
end

section
set_option autoImplicit false
set_option Elab.async false
set_option linter.all false
set_option maxRecDepth 100000
set_option maxHeartbeats 1000000
/-! Snd15: dict displays, d.get(k, x). -/
namespace Snd
open PySem PySem.Spec PyProof.Rows L2
open Mini (D Sl T)
section
variable {fad : Nat → Addr} {H H' H0 H1 H2 : Hp} {Av Bad : Addr → Prop} {ρ ρ' ρ1 ρ2 : List Addr} {st st' : Mini.St} {X : Cx} {pins : List (Addr × Obj)} {σ σ' : L2.St} {s : Shared} {env env' : Mini.Env} {p : Addr} {o : HO}
theorem pe_dnewF {pos : Pos} : PE X (.Dict [] [] pos) (tFr X fad fun _ st => some (.dct [], st)) := by
  refine pe_dnewT.imp fun σ H Q h => ?_
  obtain ⟨Av, ρ, env, st, d, st', ev, e, _, q⟩ := h
  cases e
  intro p hp
  exact q ρ _ p (Ext.new hp) hp (fun z => by
    obtain ⟨kvs, ek⟩ := ev.sr.dK z
    rw [ek] at hp; cases hp) (ev.sr.own hp trivial) (.dct upd_same .nil)
/-- the values of a display whose keys are texts -/
def ksF : List (Str × EvF) → Mini.Env → Mini.St → Option (List (List Nat × D) × Mini.St)
  | [], _, st => some ([], st)
  | (k, f) :: r, env, st => (f env st).bind fun (x, s1) => (ksF r env s1).bind fun (kvs, s2) => some ((codes k, x) :: kvs, s2)
abbrev ksT (K : PySem.W.Frag) (fad : Nat → Addr) (ks : List (Str × EvF)) : List (TE × TE) := ks.map fun p => (tC (.str p.1), tF K fad .val p.2)
theorem tPairs_F : ∀ {ks : List (Str × EvF)} {kvs : List (List Nat × D)} {ρ : List Addr} {H : Hp} {st st' : Mini.St} {Q : List (V × V) → Hp → Prop}, EV X.K fad Av ρ H env σ st → ksF ks env st = some (kvs, st') →
    (∀ ρ' H' (ws : List (Key × V)), Ext ρ ρ' H H' → SR X.K fad Av ρ' H' st' → RepO X.K fad H' (Bd Av ρ') ρ' kvs ws → ws.map (·.1) = ks.map (fun p => Sum.inr p.1) → Q (ws.map fun kv => (kV kv.1, kv.2)) H') → tPairs (ksT X.K fad ks) σ H Q
  | [], _, ρ, H, _, _, _, ev, e, q => by
    cases e
    exact q ρ H [] Ext.refl ev.sr .nil rfl
  | (k, f) :: r, _, ρ, H, st, st', _, ev, e, q => by
    unfold ksF at e
    obtain ⟨⟨x, s1⟩, e1, e⟩ := Option.bind_eq_some_iff.mp e
    obtain ⟨⟨kvs, s2⟩, e2, e⟩ := Option.bind_eq_some_iff.mp e
    cases e
    refine ⟨Av, ρ, env, st, x, s1, ev, e1, fun ρ1 H1 v x1 r1 p1 => ?_⟩
    have p1 : Rep X.K fad H1 (Bd Av ρ1) ρ1 x v := p1
    refine tPairs_F (ev.ext x1 r1) e2 fun ρ2 H2 ws x2 r2 p2 em => ?_
    exact q ρ2 H2 ((.inr k, v) :: ws) (ev.sr.trans r1 x1 x2) r2 (.cons (p1.ext r1 x2) p2) (by simp [em])
theorem mergeK_nodup : ∀ (ws acc : List (Key × V)), ((acc ++ ws).map (·.1)).Nodup → mergeK acc ws = acc ++ ws
  | [], acc, _ => by simp [mergeK]
  | w :: ws, acc, h => by
    have hn : acc.any (fun kv => decide (kv.1 = w.1)) = false := by
      rw [List.any_eq_false]
      intro x hx
      rw [List.map_append, List.nodup_append] at h
      have := h.2.2 x.1 (List.mem_map_of_mem hx) w.1 (List.mem_map_of_mem (List.mem_cons_self ..))
      simpa using this
    show mergeK (putK acc w.1 w.2) ws = _
    have e : putK acc w.1 w.2 = acc ++ [w] := by
      unfold putK
      rw [hn]
      rfl
    rw [e, mergeK_nodup ws (acc ++ [w]) (by simpa using h)]
    simp
/-- a new dict of the store -/
theorem SR.newO (sr : SR X.K fad (Av1 Av p) ρ H st) (hn : p ∉ ρ) (ha : ¬ Av p) {kvs : List (List Nat × D)} {ws : List (Key × V)} (ro : RepO X.K fad H (Bd (Av1 Av p) ρ) ρ kvs ws) (hm : Mt (H p)) : SR X.K fad Av (ρ ++ [p]) (upd H p (.dK ws)) (st ++ [kvs]) := by
  have g : Gr X.K (Bd (Av1 Av p) ρ) (Bd Av (ρ ++ [p])) ρ (ρ ++ [p]) H (upd H p (.dK ws)) := by
    have g0 := upd_gr (X := X) (Av := Av1 Av p) (ρ := ρ) (o := .dK ws) (p := p) (H := H) (.inl (.inr rfl)) hm
    refine ⟨g0.tup, g0.frz, fun a u ea n => ⟨(g0.keep a u ea n).1, fun q => n ?_⟩, fun n a h => ?_⟩
    · rcases q with q | q
      · exact .inl (.inl q)
      · rcases List.mem_append.mp q with q | q
        · exact .inr q
        · exact .inl (.inr (by simpa using q))
    · rw [List.getElem?_append_left (List.getElem?_eq_some_iff.mp h).1]; exact h
  refine ⟨?_, by rw [List.length_append, List.length_append, sr.len]; rfl, fun n a ob h1 h2 => ?_, fun a ha' => ?_⟩
  · rw [List.nodup_append]
    refine ⟨sr.nd, by simp, fun a hx b hb => ?_⟩
    rw [List.mem_singleton] at hb
    exact fun z => hn (hb ▸ z ▸ hx)
  · by_cases hl : n < ρ.length
    · rw [List.getElem?_append_left hl] at h1
      rw [List.getElem?_append_left (by rw [← sr.len]; exact hl)] at h2
      obtain ⟨kvs', ek, r⟩ := sr.obj n a ob h1 h2
      have : a ≠ p := fun z => hn (z ▸ List.mem_of_getElem? h1)
      exact ⟨kvs', by rw [upd_ne this]; exact ek, r.gr g⟩
    · have hl' : ρ.length ≤ n := by omega
      rw [List.getElem?_append_right hl'] at h1
      rw [List.getElem?_append_right (by rw [← sr.len]; exact hl'), ← sr.len] at h2
      have hz : n - ρ.length = 0 := by
        cases q : n - ρ.length with
        | zero => rfl
        | succ m => rw [q] at h1; simp at h1
      rw [hz] at h1 h2
      simp at h1 h2
      subst h1; subst h2
      exact ⟨ws, upd_same, ro.gr g⟩
  · have : a ≠ p := fun z => ha (z ▸ ha')
    rw [upd_ne this]
    exact sr.av a (.inl ha')
theorem pe_dspF {keys : List (Option Expr)} {values : List Expr} {pos : Pos} {ks : List (Str × EvF)} {kd : Kd} (hk : kd = .bor ∨ kd = .val) (h : PPs X pos keys values (ksT X.K fad ks)) (hall : keys.all (·.isSome) = true) (hl : keys.length = values.length) (h0 : keys ≠ [])
    (h15 : ks.length ≤ 15) (hkl : keys.length = ks.length) (nd : (ks.map (·.1)).Nodup) : PE X (.Dict keys values pos) (tF X.K fad kd fun env st => (ksF ks env st).map fun (kvs, s1) => (.ref s1.length, s1 ++ [kvs])) := by
  refine (pe_disp h hall hl h0 (by rw [hkl]; exact h15)).imp fun σ H Q h => ?_
  obtain ⟨Av, ρ, env, st, d, st', ev, e, q⟩ := h
  obtain ⟨⟨kvs, s1⟩, e1, e⟩ := Option.map_eq_some_iff.mp e
  cases e
  intro p hp
  have x0 : Ext ρ ρ H (upd H p (.dK [])) := Ext.new hp
  have r0 : SR X.K fad (Av1 Av p) ρ (upd H p (.dK [])) st := ev.sr.own hp trivial
  have ev0 : EV X.K fad (Av1 Av p) ρ (upd H p (.dK [])) env σ st := ev.grO x0 hp r0
  have hnρ : p ∉ ρ := fun z => by
    obtain ⟨kvs, ek⟩ := ev.sr.dK z
    rw [ek] at hp; cases hp
  have hna : ¬ Av p := fun z => by
    obtain ⟨o, ho⟩ := Mt.some (ev.sr.av p z)
    rw [ho] at hp; cases hp
  refine tPairs_F ev0 e1 fun ρ1 H1 ws x1 r1 p1 em => ?_
  have hp1 : H1 p = some (.dK []) := x1.keep _ _ upd_same hnρ
  have hn1 : p ∉ ρ1 := x1.notin (o := .dK []) upd_same hnρ
  have hl2 : ws.length = ks.length := by
    have := congrArg List.length em
    simpa using this
  refine ⟨hp1, ws, rfl, by rw [hl2]; exact h15, ?_⟩
  have hmg : mergeK [] ws = ws := by
    have hnd : (ws.map (·.1)).Nodup := by
      rw [em]
      have : ks.map (fun p => (Sum.inr p.1 : Key)) = (ks.map (·.1)).map Sum.inr := by simp
      rw [this]
      rw [List.nodup_iff_pairwise_ne, List.pairwise_map]
      exact List.Pairwise.imp (fun h z => h (Sum.inr.inj z)) nd
    simpa using mergeK_nodup ws [] (by simpa using hnd)
  rw [hmg]
  have sr2 := r1.newO hn1 hna p1 (by rw [hp1]; trivial)
  have hl1 : s1.length = ρ1.length := r1.len.symm
  refine q (ρ1 ++ [p]) _ (.ref p) ?_ sr2 (Post.rep (.ref ?_) hk)
  · obtain ⟨new, en, hnew⟩ := x1.pre
    refine ⟨fun a o ea n => ?_, new ++ [p], by rw [en, List.append_assoc], fun z hz => ?_⟩
    · have hap : a ≠ p := fun z => by subst z; rw [ea] at hp; cases hp
      rw [upd_ne hap]
      exact x1.keep a o (by rw [upd_ne hap]; exact ea) n
    · rcases List.mem_append.mp hz with hz | hz
      · have := hnew z hz
        by_cases hzp : z = p
        · subst hzp; exact hp
        · rw [upd_ne hzp] at this; exact this
      · rw [List.mem_singleton] at hz
        subst hz; exact hp
  · rw [hl1]; simp
theorem pe_get2F {ob e f : Expr} {apos cpos : Pos} {fo fe ff : EvF} {kd : Kd} (hk : kd = .bor ∨ kd = .val) (hu : X.A.units + 1 < cLine) (ho : PE X ob (tF X.K fad .bor fo)) (he : PE X e (tF X.K fad .bor fe)) (hf : PE X f (tF X.K fad .val ff)) (m : M2 X ob "get" apos e f cpos) :
    PE X (.Call (.Attribute ob "get" apos) [e, f] [] cpos) (tF X.K fad kd fun env st => (fo env st).bind fun (x, s1) => (fe env s1).bind fun (y, s2) => (ff env s2).bind fun (z, s3) => match x with
      | .dct kvs => if Mini.isKeyTup y && kvs.all (fun p => Mini.isKeyTup p.1) then some ((Mini.look kvs y).getD z, s3) else none
      | _ => none) := by
  refine (pe_dget2 hu ho he hf m).imp fun σ H Q h => ?_
  obtain ⟨Av, ρ, env, st, d, st', ev, e, q⟩ := h
  obtain ⟨⟨x, s1⟩, e1, e⟩ := Option.bind_eq_some_iff.mp e
  obtain ⟨⟨y, s2⟩, e2, e⟩ := Option.bind_eq_some_iff.mp e
  obtain ⟨⟨z, s3⟩, e3, e⟩ := Option.bind_eq_some_iff.mp e
  have hx : ∃ kvs, x = .dct kvs := by cases x <;> first | exact ⟨_, rfl⟩ | (cases e; done)
  obtain ⟨kvs, rfl⟩ := hx
  obtain ⟨hkey, e⟩ := ite_some e
  cases e
  rw [Bool.and_eq_true] at hkey
  refine ⟨Av, ρ, env, st, _, s1, ev, e1, fun ρ1 H1 v x1 r1 p1 => ?_⟩
  have ev1 := ev.ext x1 r1
  have p1 : RepW X.K fad H1 Av ρ1 (.dct kvs) v := p1
  have p1' := p1
  obtain ⟨a, ws, rfl, ha, ra⟩ := p1'.dct_inv
  refine ⟨a, rfl, .inr ⟨ws, .inl ha⟩, ?_⟩
  refine ⟨Av, ρ1, env, s1, y, s2, ev1, e2, fun ρ2 H2 w x2 r2 p2 => ?_⟩
  have p2 : RepW X.K fad H2 Av ρ2 y w := p2
  have x12 := ev.sr.trans r1 x1 x2
  refine ⟨Av, ρ2, env, s2, z, st', ev.ext x12 r2, e3, fun ρ3 H3 u x3 r3 p3 => ?_⟩
  have p3 : Rep X.K fad H3 (Bd Av ρ3) ρ3 z u := p3
  obtain ⟨ks, b, ek, rfl, hb⟩ := RepW.key hkey.1 (p2.ext r2 x3)
  have x23 := r1.trans r2 x2 x3
  have g3 : RepW X.K fad H3 Av ρ3 (.dct kvs) (.ref a) := p1.ext r1 x23
  obtain ⟨a', ws', ea, ha3, ra3⟩ := g3.dct_inv
  cases ea
  refine ⟨_, DGet.t (k := ks) ha3 hb, ?_⟩
  have x13 := ev.sr.trans r2 x12 x3
  rcases ra3.look ek with ⟨l1, l2⟩ | ⟨d', v', l1, l2, l3⟩
  · rw [l2]
    rw [l1] at q
    exact q ρ3 H3 u x13 r3 (Post.rep p3 hk)
  · rw [l2]
    rw [l1] at q
    exact q ρ3 H3 v' x13 r3 (Post.rep l3 hk)
end
end Snd
end

section
set_option autoImplicit false
set_option Elab.async false
set_option linter.all false
set_option maxRecDepth 100000
set_option maxHeartbeats 1000000
/-! Snd16: defs and their calls. -/
namespace Snd
open PySem PySem.Spec PyProof.Rows L2
open Mini (D Sl T)
/-- what a def keeps, called where nothing is being shown -/
structure FnG (P : Program) (w : World) (K : PySem.W.Frag) (mg : Str → Option Value) (base : Heap) (k : Nat) (f : Addr) (fd : FuncData) (ps : List Str) (sp : List V → Hp → VK → Prop) : Prop where
  len : ∀ vs H Q, sp vs H Q → vs.length = ps.length
  run : ∀ (A : Around) (outer : List Env) (s : Shared) (H : Hp) (args : Args) (us : List Value) (vs : List V) (Q : VK), A.guards = some [] → Room k A → Env0 P w K mg base A outer s H → BindsTo s fd args (ps.zip us) → Vals vs us → sp vs H Q →
    codeAny (model P w) A (.call (.ref f) args) (fun r s' => ∃ u, r = .ok (.ret u) ∧ CE outer P w H s Q u s') s
section
variable {X : Cx} {fad : Nat → Addr} {H H' H0 H1 H2 : Hp} {Av Bad : Addr → Prop} {ρ ρ' ρ1 ρ2 : List Addr} {st st' : Mini.St} {pins : List (Addr × Obj)} {σ σ' : L2.St} {s : Shared} {env env' : Mini.Env} {p : Addr} {o : HO}
/-- the context of a def's body -/
abbrev cxG (P : Program) (w : World) (K : PySem.W.Frag) (mg : Str → Option Value) (base : Heap) (N : List Str) (qual : Str) (scope : Scope) (f : Addr) (cd : Value) (A : Around) (outer : List Env) (s : Shared) (H : Hp) : Cx := (cxOf C8.CX0 P w K mg base N qual scope f cd A outer s H C8.E0).nox
theorem fnG_of {P : Program} {w : World} {K : PySem.W.Frag} {mg : Str → Option Value} {base : Heap} {k : Nat} {f : Addr} {name qual : Str} {params : Arguments} {body : List Stmt} {scope : Scope} {dV kV doc pm cdv ct oc : Value} {an od : Option Addr}
    {osl : Array (Option Value)} {N ps : List Str} {sp : List V → Hp → VK → Prop} (lk : K.lookup f = some ⟨oc, od, .func (PySem.W.fnOf name qual params body scope dV kV doc pm an cdv ct), osl⟩) (hcd : PySem.W.codeIn K cdv qual = true) (S : FnScope N ps scope)
    (len : ∀ vs H Q, sp vs H Q → vs.length = ps.length)
    (hbody : ∀ (A : Around) (outer : List Env) (s : Shared) (H : Hp) (vs : List V) (Q : VK), A.guards = some [] → Room k (A.deeper (envOfC qual scope s.heap.objs.size f cdv)) → sp vs H Q →
      ∃ t, PSs (cxG P w K mg base N qual scope f cdv A outer s H) body t ∧ t { nx := fun _ H' => Q .non H', rt := Q } (start N vs) H) :
    FnG P w K mg base (k + 1) f (PySem.W.fnOf name qual params body scope dV kV doc pm an cdv ct) ps sp := by
  refine ⟨len, fun A outer s H args us vs Q hg hr e0 hb r hsp => ?_⟩
  have hl := len _ _ _ hsp
  have inK : K.In s.heap := e0.mod.kin.keeps fun b o e => (e0.bs b o e).1
  have free : s.heap.NoLimit := e0.mod.nolimit.keeps fun b o e => (e0.bs b o e).1
  have names : ∀ y ∈ ps.zip us, scope.names.lookup y.1 = some .local ∨ (scope.names.lookup y.1 = some .cell ∧ ((cellsFrom (s.heap.objs.size + 1) scope.names []).lookup y.1).isSome = true) := fun y hy =>
    (S.par y.1 (List.of_mem_zip hy).1).imp id fun q => ⟨q, PySem.W.cellsFrom_some _ _ _ (.inl q)⟩
  refine codeAny_call_function hr.depth (inK _ _ lk) rfl S.co S.gen rfl (PySem.W.codeRec_of inK hcd) (hb _ _ _ _ (wpAny_newFunctionEnv_cells S.kind names fun e1 he t1 x => ?_))
  subst he
  refine ⟨free.keeps x.toInCall.keep, codeAny_func ?_⟩
  obtain ⟨t, ht, hq⟩ := hbody A outer s H vs Q hg (hr.deeper _) hsp
  have I : Inv (cxOf C8.CX0 P w K mg base N qual scope f cdv A outer s H C8.E0) [] (start N vs) H t1 := inv_start S hr.hd e0 hl r x
  have J : Inv (cxG P w K mg base N qual scope f cdv A outer s H) [] (start N vs) H t1 := I.wish _
  refine wpAny_mono (ht.run [] t1 (start N vs) H _ J hq) (fun fl t' hs => ?_) fun e t' hs => hs.elim
  have done : ∀ {τ : L2.St} {G : Hp} {v : V} {u : Value}, Inv (cxG P w K mg base N qual scope f cdv A outer s H) [] τ G t' → RelV v u → Q v G → CE outer P w H s Q u t' :=
    fun {τ G v u} J' rv q => ⟨v, G, J'.os, J'.bare, J'.base, J'.hok, rv, q⟩
  cases fl with
  | ret u =>
    obtain ⟨v, τ, G, J', rv, q⟩ := hs
    exact ⟨u, rfl, done J' rv q⟩
  | next =>
    obtain ⟨τ, G, J', q⟩ := hs
    exact ⟨.none, rfl, done (v := V.non) J' rfl q⟩
  | brk =>
    obtain ⟨_, _, _, q⟩ := hs
    exact q.elim
  | cont =>
    obtain ⟨_, _, _, q⟩ := hs
    exact q.elim
theorem run_g {k : Nat} {f : Addr} {fd : FuncData} {ps : List Str} {sp : List V → Hp → VK → Prop} {us ws : List Value} {kw : List (Str × Value)} {vs : List V} {Q : VK} (F : FnG X.prog X.w X.K X.mg X.base k f fd ps sp) (hg : X.A.guards = some []) (hr : Room k X.A) (I : Inv X pins σ H s)
    (hb : BindsTo s fd ⟨us, kw⟩ (ps.zip ws)) (r : Vals vs ws) (h : sp vs H Q) : wpAny (model X.prog X.w) X.A (call (.ref f) us kw) (EP X pins σ Q) X.xe s := by
  refine wpAny_call (codeAny_mono (F.run X.A X.stack s H ⟨us, kw⟩ ws vs Q hg hr I.env0 hb r h) fun r s' hq => ?_)
  obtain ⟨u, rfl, hq⟩ := hq
  exact I.after hq
/-- the promise of def n, d calls deep -/
def spF (K : PySem.W.Frag) (fad : Nat → Addr) (P : Mini.Prog) (d n : Nat) : List V → Hp → VK → Prop := fun vs H Q => ∃ (Av : Addr → Prop) (ρ : List Addr) (st : Mini.St) (ds : List D) (r : D) (st' : Mini.St), SR K fad Av ρ H st ∧ RepL K fad H (Bd Av ρ) ρ ds vs ∧ Mini.callP P d n ds st = some (r, st') ∧
  ∀ ρ' H' v, Ext ρ ρ' H H' → SR K fad Av ρ' H' st' → Rep K fad H' (Bd Av ρ') ρ' r v → Q v H'
/-- def n, d calls deep, may be called from X -/
structure CalG (X : Cx) (fad : Nat → Addr) (P : Mini.Prog) (d n : Nat) (fd : FuncData) (ps : List Str) : Prop where
  fn : FnG X.prog X.w X.K X.mg X.base d (fad n) fd ps (spF X.K fad P d n)
  kp : PySem.W.keepIn X.K (.ref (fad n)) = true
  bind : ∀ (s : Shared) (us : List Value), us.length = ps.length → BindsTo s fd ⟨us, []⟩ (ps.zip us)
theorem Vals.len {vs : List V} {us : List Value} (r : Vals vs us) : vs.length = us.length := r.length
theorem run_cal {P : Mini.Prog} {d n : Nat} {fd : FuncData} {ps : List Str} {us : List Value} {vs : List V} {Q : VK} (C : CalG X fad P d n fd ps) (hg : X.A.guards = some []) (hr : Room d X.A) (I : Inv X pins σ H s) (r : Vals vs us) (h : spF X.K fad P d n vs H Q) :
    wpAny (model X.prog X.w) X.A (call (.ref (fad n)) us) (EP X pins σ Q) X.xe s :=
  run_g C.fn hg hr I (C.bind s us (r.length.symm.trans (C.fn.len _ _ _ h))) r h
theorem noStar_or {es : List Expr} (h : ∀ e ∈ es, ∀ a p, e ≠ .Starred a p) {env : Env} : es = [] ∨ ∃ e r, es = e :: r ∧ starEach (e :: r) env = (false, eval e env) :: starEach r env := by
  cases es with
  | nil => exact .inl rfl
  | cons e r => exact .inr ⟨e, r, rfl, noStar (h e (List.mem_cons_self ..))⟩
theorem pe_callF {P : Mini.Prog} {d n : Nat} {fd : FuncData} {ps : List Str} {x : Str} {p pos : Pos} {e : Expr} {es : List Expr} {fr : Mini.Env → Mini.St → Option (List D × Mini.St)} {kd : Kd} (hk : kd = .bor ∨ kd = .val) (C : CalG X fad P d n fd ps) (hg : X.A.guards = some []) (hr : Room d X.A)
    (hgl : Gl X x) (hm : X.mg x = some (.ref (fad n))) (hdb : (x == ("__debug__" : Str)) = false) (ha : PA X (e :: es) (tFL X.K fad false fr)) (hs : ∀ e' ∈ e :: es, ∀ a p, e' ≠ .Starred a p) :
    PE X (.Call (.Name x p) (e :: es) [] pos) (tF X.K fad kd fun env st => (fr env st).bind fun (xs, s1) => Mini.callP P d n xs s1) := by
  refine ⟨fun pins s σ H Q I h => ?_⟩
  have key : tFL X.K fad false fr σ H fun vs H1 => spF X.K fad P d n vs H1 Q := by
    obtain ⟨Av, ρ, env, st, d', st', ev, e, q⟩ := h
    obtain ⟨⟨xs, s1⟩, e1, e2⟩ := Option.bind_eq_some_iff.mp e
    refine ⟨Av, ρ, env, st, xs, s1, ev, e1, fun ρ1 H1 vs x1 r1 p1 => ?_⟩
    exact ⟨Av, ρ1, s1, xs, d', st', r1, p1, e2, fun ρ2 H2 v x2 r2 p2 => q ρ2 H2 v (ev.sr.trans r1 x1 x2) r2 (Post.rep p2 hk)⟩
  refine wpAny_Call_Name_kw (ld_glob I hgl hm ?_ hdb)
  refine PySem.W.callWith_K (h₀ := X.base) I.ok.mod.kin C.kp (thn (ha.run pos pins s σ H _ I key) fun us s1 ⟨vs, H1, I1, r1, q1⟩ => ⟨I1.kIn, ?_⟩) (noStar (hs e (List.mem_cons_self ..))) (noneStarred fun e' he' => hs e' (List.mem_cons_of_mem _ he'))
  exact run_cal C hg hr I1 r1 q1
theorem pe_call0F {P : Mini.Prog} {d n : Nat} {fd : FuncData} {ps : List Str} {x : Str} {p pos : Pos} {kd : Kd} (hk : kd = .bor ∨ kd = .val) (C : CalG X fad P d n fd ps) (hg : X.A.guards = some []) (hr : Room d X.A)
    (hgl : Gl X x) (hm : X.mg x = some (.ref (fad n))) (hdb : (x == ("__debug__" : Str)) = false) :
    PE X (.Call (.Name x p) [] [] pos) (tF X.K fad kd fun env st => ((fun (_ : Mini.Env) (st : Mini.St) => some (([] : List D), st)) env st).bind fun (xs, s1) => Mini.callP P d n xs s1) := by
  refine ⟨fun pins s σ H Q I h => ?_⟩
  refine wpAny_Call_Name_kw (ld_glob I hgl hm ?_ hdb)
  refine PySem.W.callWith_K0 I.kIn C.kp ?_
  obtain ⟨Av, ρ, env, st, d', st', ev, e, q⟩ := h
  exact run_cal (vs := []) C hg hr I .nil ⟨Av, ρ, st, [], d', st', ev.sr, .nil, by simpa using e, fun ρ2 H2 v x2 r2 p2 => q ρ2 H2 v x2 r2 (Post.rep p2 hk)⟩

/-! ### keywords -/
def permL {α : Type} (xs : List α) (p : List Nat) : Option (List α) := p.mapM fun i => xs[i]?
theorem permL_vals : ∀ {vs : List V} {us : List Value} {p : List Nat} {zs : List V}, Vals vs us → permL vs p = some zs → ∃ ws, permL us p = some ws ∧ Vals zs ws
  | vs, us, [], zs, _, h => by
    simp [permL] at h
    subst h
    exact ⟨[], by simp [permL], .nil⟩
  | vs, us, i :: p, zs, r, h => by
    unfold permL at h
    rw [List.mapM_cons] at h
    obtain ⟨x, e1, h⟩ := Option.bind_eq_some_iff.mp h
    obtain ⟨y, e2, h⟩ := Option.bind_eq_some_iff.mp h
    cases h
    obtain ⟨ws, e3, r3⟩ := permL_vals r (show permL vs p = some y from e2)
    obtain ⟨u, e4, r4⟩ := r.get e1
    refine ⟨u :: ws, ?_, .cons r4 r3⟩
    unfold permL at e3 ⊢
    rw [List.mapM_cons, e4, e3]
    rfl
theorem permL_rep : ∀ {ds : List D} {vs : List V} {p : List Nat} {zs : List D}, RepL X.K fad H Bad ρ ds vs → Mini.permD ds p = some zs → ∃ ws, permL vs p = some ws ∧ RepL X.K fad H Bad ρ zs ws
  | ds, vs, [], zs, _, h => by
    simp [Mini.permD] at h
    subst h
    exact ⟨[], by simp [permL], .nil⟩
  | ds, vs, i :: p, zs, r, h => by
    unfold Mini.permD at h
    rw [List.mapM_cons] at h
    obtain ⟨x, e1, h⟩ := Option.bind_eq_some_iff.mp h
    obtain ⟨y, e2, h⟩ := Option.bind_eq_some_iff.mp h
    cases h
    obtain ⟨ws, e3, r3⟩ := permL_rep r (show Mini.permD ds p = some y from e2)
    obtain ⟨u, e4, r4⟩ := r.get e1
    refine ⟨u :: ws, ?_, .cons r4 r3⟩
    unfold permL at e3 ⊢
    rw [List.mapM_cons, e4, e3]
    rfl
/-- how such a call binds -/
def KwB (fd : FuncData) (ps : List Str) (np : Nat) (ks : List Str) (perm : List Nat) : Prop := ∀ (s : Shared) (us ws zs : List Value), us.length = np → ws.length = ks.length → permL (us ++ ws) perm = some zs → BindsTo s fd ⟨us, ks.zip ws⟩ (ps.zip zs)
theorem pk_nilF : PK X [] (tFL X.K fad false fun _ st => some ([], st)) := by
  refine pk_nil.imp fun σ H Q h => ?_
  obtain ⟨Av, ρ, env, st, ds, st', ev, e, q⟩ := h
  cases e
  exact q ρ H [] Ext.refl ev.sr .nil
theorem pk_consF {e : Expr} {nm : Option Str} {kpos : Pos} {kws : List Keyword} {fa : EvF} {fr : Mini.Env → Mini.St → Option (List D × Mini.St)} (ha : PE X e (tF X.K fad .val fa)) (hr : PK X kws (tFL X.K fad false fr)) :
    PK X (⟨nm, e, kpos⟩ :: kws) (tFL X.K fad false fun env st => (fa env st).bind fun (x, s1) => (fr env s1).bind fun (xs, s2) => some (x :: xs, s2)) := by
  refine (pk_cons ha hr).imp fun σ H Q h => ?_
  obtain ⟨Av, ρ, env, st, ds, st', ev, e, q⟩ := h
  obtain ⟨⟨x, s1⟩, e1, e⟩ := Option.bind_eq_some_iff.mp e
  obtain ⟨⟨xs, s2⟩, e2, e⟩ := Option.bind_eq_some_iff.mp e
  cases e
  refine ⟨Av, ρ, env, st, x, s1, ev, e1, fun ρ1 H1 v x1 r1 p1 => ?_⟩
  have p1 : Rep X.K fad H1 (Bd Av ρ1) ρ1 x v := p1
  refine ⟨Av, ρ1, env, s1, xs, st', ev.ext x1 r1, e2, fun ρ2 H2 vs x2 r2 p2 => q ρ2 H2 (v :: vs) (ev.sr.trans r1 x1 x2) r2 ?_⟩
  exact RepL.cons (p1.ext r1 x2) p2
theorem tK_F {P : Mini.Prog} {d n np nk : Nat} {perm : List Nat} {fr fk : Mini.Env → Mini.St → Option (List D × Mini.St)} {kd : Kd} {Q : VK} (hk : kd = .bor ∨ kd = .val) (hl1 : ∀ env st xs st', fr env st = some (xs, st') → xs.length = np) (hl2 : ∀ env st xs st', fk env st = some (xs, st') → xs.length = nk)
    (h : tF X.K fad kd (fun env st => (fr env st).bind fun (xs, s1) => (fk env s1).bind fun (ys, s2) => (Mini.permD (xs ++ ys) perm).bind fun zs => Mini.callP P d n zs s2) σ H Q) :
    tFL X.K fad false fr σ H fun vs H1 => vs.length = np ∧ tFL X.K fad false fk σ H1 fun zs H2 => zs.length = nk ∧ ∃ ys, permL (vs ++ zs) perm = some ys ∧ spF X.K fad P d n ys H2 Q := by
  obtain ⟨Av, ρ, env, st, d', st', ev, e, q⟩ := h
  obtain ⟨⟨xs, s1⟩, e1, e⟩ := Option.bind_eq_some_iff.mp e
  obtain ⟨⟨ys, s2⟩, e2, e⟩ := Option.bind_eq_some_iff.mp e
  obtain ⟨zs, e3, e⟩ := Option.bind_eq_some_iff.mp e
  refine ⟨Av, ρ, env, st, xs, s1, ev, e1, fun ρ1 H1 vs x1 r1 p1 => ?_⟩
  have p1 : RepL X.K fad H1 (Bd Av ρ1) ρ1 xs vs := p1
  refine ⟨p1.length.symm.trans (hl1 _ _ _ _ e1), ?_⟩
  refine ⟨Av, ρ1, env, s1, ys, s2, ev.ext x1 r1, e2, fun ρ2 H2 ws x2 r2 p2 => ?_⟩
  have p2 : RepL X.K fad H2 (Bd Av ρ2) ρ2 ys ws := p2
  refine ⟨p2.length.symm.trans (hl2 _ _ _ _ e2), ?_⟩
  obtain ⟨us, e4, p4⟩ := permL_rep ((p1.ext r1 x2).append p2) e3
  have x12 := ev.sr.trans r1 x1 x2
  exact ⟨us, e4, Av, ρ2, s2, zs, d', st', r2, p4, e, fun ρ3 H3 v x3 r3 p3 => q ρ3 H3 v (ev.sr.trans r2 x12 x3) r3 (Post.rep p3 hk)⟩
theorem run_kw {P : Mini.Prog} {d n np : Nat} {fd : FuncData} {ps ks : List Str} {perm : List Nat} {us ws : List Value} {vs zs ys : List V} {Q : VK} (C : CalG X fad P d n fd ps) (hb : KwB fd ps np ks perm) (hg : X.A.guards = some []) (hr : Room d X.A) (I : Inv X pins σ H s) (r : Vals vs us) (r2 : Vals zs ws)
    (hn : us.length = np) (hk : ws.length = ks.length) (e : permL (vs ++ zs) perm = some ys) (h : spF X.K fad P d n ys H Q) : wpAny (model X.prog X.w) X.A (call (.ref (fad n)) us (ks.zip ws)) (EP X pins σ Q) X.xe s := by
  obtain ⟨w2, e2, r3⟩ := permL_vals (r.append r2) e
  exact run_g C.fn hg hr I (hb s us ws w2 hn hk e2) r3 h
theorem pe_callKF {P : Mini.Prog} {d n : Nat} {fd : FuncData} {ps ks : List Str} {perm : List Nat} {x : Str} {p pos : Pos} {e : Expr} {es : List Expr} {kws : List Keyword} {fr fk : Mini.Env → Mini.St → Option (List D × Mini.St)} {kd : Kd} (hk : kd = .bor ∨ kd = .val) (C : CalG X fad P d n fd ps)
    (hb : KwB fd ps (es.length + 1) ks perm) (hg : X.A.guards = some []) (hr : Room d X.A) (hgl : Gl X x) (hm : X.mg x = some (.ref (fad n))) (hdb : (x == ("__debug__" : Str)) = false)
    (ha : PA X (e :: es) (tFL X.K fad false fr)) (hs : ∀ e' ∈ e :: es, ∀ a p, e' ≠ .Starred a p) (hkw : PK X kws (tFL X.K fad false fk)) (hall : (backToKw pos (keywordEach kws X.env)).all (·.1.isSome) = true) (hks : (backToKw pos (keywordEach kws X.env)).filterMap (·.1) = ks) (hno : (backToKw pos (keywordEach kws X.env)).any (·.1.isNone) = false)
    (hl1 : ∀ env st xs st', fr env st = some (xs, st') → xs.length = es.length + 1) (hl2 : ∀ env st xs st', fk env st = some (xs, st') → xs.length = ks.length) :
    PE X (.Call (.Name x p) (e :: es) kws pos) (tF X.K fad kd fun env st => (fr env st).bind fun (xs, s1) => (fk env s1).bind fun (ys, s2) => (Mini.permD (xs ++ ys) perm).bind fun zs => Mini.callP P d n zs s2) := by
  refine ⟨fun pins s σ H Q I h => ?_⟩
  have key := tK_F hk hl1 hl2 h
  refine wpAny_Call_Name_kw (ld_glob I hgl hm ?_ hdb)
  refine PySem.W.callWith_KW (h₀ := X.base) I.ok.mod.kin C.kp hall (thn (ha.run pos pins s σ H _ I key) fun us s1 ⟨vs, H1, I1, r1, n1, q1⟩ => ?_) (by rw [noneStarred hs, hno]; rfl) (noStar (hs e (List.mem_cons_self ..)))
  refine thn (hkw.run pos pins s1 σ H1 _ I1 q1) fun ws s2 ⟨zs, H2, I2, rz, n2, ys, e2, q2⟩ => ⟨I2.kIn, ?_⟩
  rw [hks]
  exact run_kw C hb hg hr I2 r1 rz (r1.length.symm.trans n1) (rz.length.symm.trans n2) e2 q2
theorem pe_callK0F {P : Mini.Prog} {d n : Nat} {fd : FuncData} {ps ks : List Str} {perm : List Nat} {x : Str} {p pos : Pos} {kws : List Keyword} {fk : Mini.Env → Mini.St → Option (List D × Mini.St)} {kd : Kd} (hk : kd = .bor ∨ kd = .val) (C : CalG X fad P d n fd ps)
    (hb : KwB fd ps 0 ks perm) (hg : X.A.guards = some []) (hr : Room d X.A) (hgl : Gl X x) (hm : X.mg x = some (.ref (fad n))) (hdb : (x == ("__debug__" : Str)) = false)
    (hkw : PK X kws (tFL X.K fad false fk)) (hall : (backToKw pos (keywordEach kws X.env)).all (·.1.isSome) = true) (hks : (backToKw pos (keywordEach kws X.env)).filterMap (·.1) = ks) (hno : (backToKw pos (keywordEach kws X.env)).any (·.1.isNone) = false)
    (hl2 : ∀ env st xs st', fk env st = some (xs, st') → xs.length = ks.length) :
    PE X (.Call (.Name x p) [] kws pos) (tF X.K fad kd fun env st => ((fun (_ : Mini.Env) (st : Mini.St) => some (([] : List D), st)) env st).bind fun (xs, s1) => (fk env s1).bind fun (ys, s2) => (Mini.permD (xs ++ ys) perm).bind fun zs => Mini.callP P d n zs s2) := by
  refine ⟨fun pins s σ H Q I h => ?_⟩
  have key : tFL X.K fad false fk σ H fun zs H2 => zs.length = ks.length ∧ ∃ ys, permL ([] ++ zs) perm = some ys ∧ spF X.K fad P d n ys H2 Q := by
    obtain ⟨Av, ρ, env, st, d', st', ev, e, q⟩ := h
    obtain ⟨⟨xs, s1⟩, e1, e⟩ := Option.bind_eq_some_iff.mp e
    cases e1
    obtain ⟨⟨ys, s2⟩, e2, e⟩ := Option.bind_eq_some_iff.mp e
    obtain ⟨zs, e3, e⟩ := Option.bind_eq_some_iff.mp e
    refine ⟨Av, ρ, env, st, ys, s2, ev, e2, fun ρ2 H2 ws x2 r2 p2 => ?_⟩
    have p2 : RepL X.K fad H2 (Bd Av ρ2) ρ2 ys ws := p2
    refine ⟨p2.length.symm.trans (hl2 _ _ _ _ e2), ?_⟩
    obtain ⟨us, e4, p4⟩ := permL_rep p2 (by simpa using e3)
    exact ⟨us, by simpa using e4, Av, ρ2, s2, zs, d', st', r2, p4, e, fun ρ3 H3 v x3 r3 p3 => q ρ3 H3 v (ev.sr.trans r2 x2 x3) r3 (Post.rep p3 hk)⟩
  refine wpAny_Call_Name_kw (ld_glob I hgl hm ?_ hdb)
  refine PySem.W.callWith_KW0 (h₀ := X.base) I.ok.mod.kin C.kp hall ?_ (by rw [hno]; rfl)
  refine thn (hkw.run pos pins s σ H _ I key) fun ws s2 ⟨zs, H2, I2, rz, n2, ys, e2, q2⟩ => ⟨I2.kIn, ?_⟩
  rw [hks]
  exact run_kw (us := []) (vs := []) C hb hg hr I2 .nil rz rfl (rz.length.symm.trans n2) e2 q2

/-! ### a def as a value -/
theorem pe_callVF {P : Mini.Prog} {d : Nat} {x : Str} {p pos : Pos} {e : Expr} {es : List Expr} {ff : EvF} {fr : Mini.Env → Mini.St → Option (List D × Mini.St)} {kd : Kd} (hk : kd = .bor ∨ kd = .val) (hC : ∀ n xs st r st', Mini.callP P d n xs st = some (r, st') → ∃ fd ps, CalG X fad P d n fd ps)
    (hg : X.A.guards = some []) (hr : Room d X.A) (hf : PE X (.Name x p) (tF X.K fad .bor ff)) (ha : PA X (e :: es) (tFL X.K fad false fr)) (hs : ∀ e' ∈ e :: es, ∀ a p, e' ≠ .Starred a p) :
    PE X (.Call (.Name x p) (e :: es) [] pos) (tF X.K fad kd fun env st => (ff env st).bind fun (g, s1) => (fr env s1).bind fun (xs, s2) => match g with | .fn n => Mini.callP P d n xs s2 | _ => none) := by
  refine ⟨fun pins s σ H Q I h => ?_⟩
  obtain ⟨Av, ρ, env, st, d', st', ev, e, q⟩ := h
  obtain ⟨⟨g, s1⟩, e1, e⟩ := Option.bind_eq_some_iff.mp e
  obtain ⟨⟨xs, s2⟩, e2, e⟩ := Option.bind_eq_some_iff.mp e
  have hgn : ∃ n, g = .fn n := by cases g <;> first | exact ⟨_, rfl⟩ | (cases e; done)
  obtain ⟨n, rfl⟩ := hgn
  obtain ⟨fd, ps, C⟩ := hC _ _ _ _ _ (show Mini.callP P d n xs s2 = some (d', st') from e)
  refine wpAny_Call_Name_kw (thn (hf.run pins s σ H _ I ⟨Av, ρ, env, st, _, s1, ev, e1, fun ρ1 H1 v x1 r1 p1 => (⟨ρ1, x1, r1, p1⟩ : ∃ ρ1, Ext ρ ρ1 H H1 ∧ SR X.K fad Av ρ1 H1 s1 ∧ RepW X.K fad H1 Av ρ1 (.fn n) v)⟩) fun u s1' ⟨v, H1, I1, rv, ρ1, x1, r1, p1⟩ => ?_)
  have ev0 : v = .ref (fad n) := by
    cases p1 with
    | of r => cases r; rfl
  subst ev0
  cases rv
  have key : tFL X.K fad false fr σ H1 fun vs H2 => spF X.K fad P d n vs H2 Q := by
    refine ⟨Av, ρ1, env, s1, xs, s2, ev.ext x1 r1, e2, fun ρ2 H2 vs x2 r2 p2 => ?_⟩
    have x12 := ev.sr.trans r1 x1 x2
    exact ⟨Av, ρ2, s2, xs, d', st', r2, p2, e, fun ρ3 H3 v x3 r3 p3 => q ρ3 H3 v (ev.sr.trans r2 x12 x3) r3 (Post.rep p3 hk)⟩
  refine PySem.W.callWith_K (h₀ := X.base) I1.ok.mod.kin C.kp (thn (ha.run pos pins s1' σ H1 _ I1 key) fun us s3 ⟨vs, H2, I2, r2, q2⟩ => ⟨I2.kIn, ?_⟩) (noStar (hs _ (List.mem_cons_self ..))) (noneStarred fun e' he' => hs e' (List.mem_cons_of_mem _ he'))
  exact run_cal C hg hr I2 r2 q2
end
end Snd
end

section
set_option autoImplicit false
set_option Elab.async false
set_option linter.all false
set_option maxRecDepth 100000
set_option maxHeartbeats 1000000
/-! Snd17: new lists of operators and built-in functions. -/
namespace Snd
open PySem PySem.Spec PyProof.Rows L2
open Mini (D Sl T)
section
variable {X : Cx} {fad : Nat → Addr} {H H' H0 H1 H2 : Hp} {Av Bad : Addr → Prop} {ρ ρ' ρ1 ρ2 : List Addr} {st st' : Mini.St} {pins : List (Addr × Obj)} {σ σ' : L2.St} {s : Shared} {env env' : Mini.Env} {p : Addr} {o : HO}
theorem SR.growOwn (sr : SR X.K fad Av ρ H st) (g : Grow H H') (h0 : H p = none) (hm : Mt (H' p)) : SR X.K fad (Av1 Av p) ρ H' st := by
  refine ⟨sr.nd, sr.len, fun n a ob h1 h2 => ?_, fun a ha => ?_⟩
  · obtain ⟨kvs, ek, r⟩ := sr.obj n a ob h1 h2
    exact ⟨kvs, g a _ ek, r.gr (Ext.grO (X := X) sr g.ext h0)⟩
  · rcases ha with ha | ha
    · have := sr.av a ha
      obtain ⟨u, hu⟩ := Mt.some this
      rw [g a u hu]
      rw [hu] at this
      exact this
    · subst ha; exact hm
theorem fre_own {d : D} {v : V} (f : PostN X.K fad H H' Av ρ d v) (ho : Mini.ownable d = true) (g : Grow H H') (sr : SR X.K fad Av ρ H st) :
    ∃ p, v = .ref p ∧ H p = none ∧ p ∉ ρ ∧ SR X.K fad (Av1 Av p) ρ H' st ∧ Cont X.K fad H' (Bd (Av1 Av p) ρ) ρ d p := by
  have key : Fre X.K fad H H' Av ρ d v := by
    cases d <;> first | (simp [Mini.ownable] at ho; done) | exact f
  cases key with
  | lst h0 h1 h2 h3 => exact ⟨_, rfl, h0, fun z => h1 (.inr z), sr.growOwn g h0 (by rw [h2]; trivial), .lst h2 (RepL.gr (Gr.weak (K := X.K) fun a q => bd_av1.mp q) _ _ h3)⟩
  | dct h0 h1 h2 h3 => exact ⟨_, rfl, h0, fun z => h1 (.inr z), sr.growOwn g h0 (by rw [h2]; trivial), .dct h2 (RepK.gr (Gr.weak (K := X.K) fun a q => bd_av1.mp q) _ _ h3)⟩
theorem none_back (sr : SR X.K fad Av ρ H st) (x : Ext ρ ρ' H H') (r : SR X.K fad Av ρ' H' st') (h : H' p = none) : H p = none := by
  cases q : H p with
  | none => rfl
  | some o => exact absurd h (sr.kept x r p (by rw [q]; simp))
theorem pe_binFr {a b : Expr} {pos : Pos} {fa fb : EvF} (o : Mini.Bin) (ha : PE X a (tF X.K fad .bor fa)) (hb : PE X b (tF X.K fad .bor fb)) :
    PE X (.BinOp a (opOf o) b pos) (tFr X fad fun env st => (fa env st).bind fun (x, s1) => (fb env s1).bind fun (y, s2) => (Mini.binD o x y).map (·, s2)) := by
  refine (pe_op (op_binV (fad := fad) o) ha hb).imp fun σ H Q h => ?_
  obtain ⟨Av, ρ, env, st, d, st', ev, e, ho, q⟩ := h
  obtain ⟨⟨x, s1⟩, e1, e⟩ := Option.bind_eq_some_iff.mp e
  obtain ⟨⟨y, s2⟩, e2, e⟩ := Option.bind_eq_some_iff.mp e
  obtain ⟨d', e3, e⟩ := Option.map_eq_some_iff.mp e
  cases e
  refine ⟨Av, ρ, env, st, x, s1, ev, e1, fun ρ1 H1 v x1 r1 p1 => ?_⟩
  refine ⟨Av, ρ1, env, s1, y, _, ev.ext x1 r1, e2, fun ρ2 H2 u x2 r2 p2 => ?_⟩
  refine ⟨Av, ρ2, st', x, y, d, r2, RepW.ext p1 r1 x2, p2, e3, fun w H3 g3 r3 p3 => ?_⟩
  obtain ⟨p, rfl, h0, hn, r4, c⟩ := fre_own p3 ho g3 r2
  have x12 := ev.sr.trans r1 x1 x2
  exact q ρ2 H3 p (ev.sr.trans r2 x12 g3.ext) (none_back ev.sr x12 r2 h0) hn r4 c
theorem pe_lstFr {es : List Expr} {pos : Pos} {f : Mini.Env → Mini.St → Option (List D × Mini.St)} (h : PA X es (tFL X.K fad false f)) :
    PE X (.List es pos) (tFr X fad fun env st => (f env st).bind fun (xs, s1) => if xs.length ≤ Mini.LIM then some (.lst xs, s1) else none) := by
  refine (pe_lst h).imp fun σ H Q h => ?_
  obtain ⟨Av, ρ, env, st, d, st', ev, e, _, q⟩ := h
  obtain ⟨⟨xs, s1⟩, e1, e⟩ := Option.bind_eq_some_iff.mp e
  obtain ⟨hz, e⟩ := ite_some e
  cases e
  refine ⟨Av, ρ, env, st, xs, _, ev, e1, fun ρ1 H1 vs x1 r1 p1 => ⟨by rw [← RepL.length p1]; exact hz, fun p hp => ?_⟩⟩
  have p1 : RepL X.K fad H1 (Bd Av ρ1) ρ1 xs vs := p1
  exact q ρ1 _ p (ev.sr.trans r1 x1 (Ext.new hp)) (none_back ev.sr x1 r1 hp) (fun z => by
    obtain ⟨kvs, ek⟩ := r1.dK z
    rw [ek] at hp; cases hp) (r1.own hp trivial) (.lst upd_same (RepL.gr (Ext.grO (X := X) r1 (Ext.new hp) hp) _ _ p1))
theorem tBi_Fr {t : TA} {o : Mini.Bi} {fr : Mini.Env → Mini.St → Option (List D × Mini.St)} {Q : VK}
    (h : tFr X fad (fun env st => (fr env st).bind fun (xs, s1) => (Mini.biD o xs).map (·, s1)) σ H Q) : tCB (rBi X.K fad o) (tFL X.K fad true fr) σ H Q := by
  obtain ⟨Av, ρ, env, st, d, st', ev, e, ho, q⟩ := h
  obtain ⟨⟨xs, s1⟩, e1, e⟩ := Option.bind_eq_some_iff.mp e
  obtain ⟨d', e2, e3⟩ := Option.map_eq_some_iff.mp e
  cases e3
  refine ⟨Av, ρ, env, st, xs, _, ev, e1, fun ρ1 H1 vs x1 r1 p1 => ?_⟩
  refine ⟨Av, ρ1, _, xs, d, r1, p1, e2, fun v H2 g2 r2 p2 => ?_⟩
  obtain ⟨p, rfl, h0, hn, r4, c⟩ := fre_own p2 ho g2 r1
  exact q ρ1 H2 p (ev.sr.trans r1 x1 g2.ext) (none_back ev.sr x1 r1 h0) hn r4 c
theorem pe_listRgFr {p pos : Pos} {e : Expr} {f : EvF} (hc : X.calm = true) (hg : Gl X "list") (hm : X.mg "list" = none) (he : RgF X fad e f) (hs : ∀ b p, e ≠ .Starred b p) :
    PE X (.Call (.Name "list" p) [e] [] pos) (tFr X fad fun env st => (f env st).bind fun (x, s1) => (Mini.biD .list [x]).map (·, s1)) := by
  obtain ⟨te, h1, h2⟩ := he
  refine (pe_listRg hc hg hm h1 (noStar hs)).imp fun σ H Q h => ?_
  obtain ⟨Av, ρ, env, st, d, st', ev, e, _, q⟩ := h
  obtain ⟨⟨x, s1⟩, e1, e⟩ := Option.bind_eq_some_iff.mp e
  obtain ⟨d', e2, e3⟩ := Option.map_eq_some_iff.mp e
  cases e3
  refine h2 ev e1 fun ρ1 H1 m n x1 r1 ok hd => ⟨ok, fun p hp => ?_⟩
  subst hd
  cases e2
  exact q ρ1 _ p (ev.sr.trans r1 x1 (Ext.new hp)) (none_back ev.sr x1 r1 hp) (fun z => by
    obtain ⟨kvs, ek⟩ := r1.dK z
    rw [ek] at hp; cases hp) (r1.own hp trivial) (.lst upd_same (rep_rg m _))
end
end Snd
end

section
set_option autoImplicit false
set_option Elab.async false
set_option linter.all false
set_option maxRecDepth 100000
set_option maxHeartbeats 1000000
/-! Snd18: the state between statements. -/
namespace Snd
open PySem PySem.Spec PyProof.Rows L2
open Mini (D Sl T)
section
variable {X : Cx} {fad : Nat → Addr} {H H' H0 H1 H2 : Hp} {Av Av' Av0 Bad Bad' Pn : Addr → Prop} {ρ ρ' ρ0 ρ1 ρ2 : List Addr} {st st' s1 : Mini.St} {pins : List (Addr × Obj)} {σ σ' : L2.St} {s : Shared} {env env' : Mini.Env} {p : Addr} {o : HO}
/-- slot i holds the list or dict at a, which this def alone holds -/
def OwAt (env : Mini.Env) (σ : L2.St) (i : Nat) (a : Addr) : Prop := (∃ d, env[i]? = some (.ow d)) ∧ σ[i]? = some (some (.ref a))
/-- what may not be looked at by other values: the callers' own, this def's own, what is not yet stored -/
def OwA (Av0 : Addr → Prop) (env : Mini.Env) (σ : L2.St) (Pn : Addr → Prop) : Addr → Prop := fun a => Av0 a ∨ (∃ i, OwAt env σ i a) ∨ Pn a
abbrev no : Addr → Prop := fun _ => False
/-- moments from which things are to be as they were -/
abbrev Fset := (Addr → Prop) → List Addr → Hp → Prop
theorem Cont.gr {K : PySem.W.Frag} {d : D} (c : Cont K fad H Bad ρ d p) (hp : H' p = H p) (g : Gr K Bad Bad' ρ ρ' H H') : Cont K fad H' Bad' ρ' d p := by
  cases c with
  | lst h1 h2 => exact .lst (hp.trans h1) (RepL.gr g _ _ h2)
  | dct h1 h2 => exact .dct (hp.trans h1) (RepK.gr g _ _ h2)
theorem Cont.some {K : PySem.W.Frag} {d : D} (c : Cont K fad H Bad ρ d p) : ∃ o, H p = some o ∧ Mt (some o) := by
  cases c with
  | lst h1 h2 => exact ⟨_, h1, trivial⟩
  | dct h1 h2 => exact ⟨_, h1, trivial⟩
theorem Cont.repW {K : PySem.W.Frag} {d : D} (c : Cont K fad H (Bd Av ρ) ρ d p) (hn : p ∉ ρ) : RepW K fad H Av ρ d (.ref p) := by
  cases c with
  | lst h1 h2 => exact .lst hn h1 h2
  | dct h1 h2 => exact .dct hn h1 h2
theorem Cont.ownable {K : PySem.W.Frag} {d : D} (c : Cont K fad H Bad ρ d p) : Mini.ownable d = true := by cases c <;> rfl
/-- Av0, ρ0, H0: as the def was entered -/
structure SV (X : Cx) (fad : Nat → Addr) (Av0 : Addr → Prop) (ρ0 : List Addr) (H0 : Hp) (F : Fset) (Pn : Addr → Prop) (ρ : List Addr) (H : Hp) (env : Mini.Env) (σ : L2.St) (st : Mini.St) : Prop where
  sr : SR X.K fad (OwA Av0 env σ Pn) ρ H st
  len : env.length = σ.length
  sh : ∀ (i : Nat) (d : D), env[i]? = some (.sh d) → ∃ v, σ[i]? = some (some v) ∧ Rep X.K fad H (Bd (OwA Av0 env σ Pn) ρ) ρ d v
  ow : ∀ (i : Nat) (d : D), env[i]? = some (.ow d) → ∃ a, σ[i]? = some (some (.ref a)) ∧ Cont X.K fad H (Bd (OwA Av0 env σ Pn) ρ) ρ d a
  own : ∀ i a, OwAt env σ i a → H0 a = none ∧ a ∉ ρ
  inj : ∀ i j a, OwAt env σ i a → OwAt env σ j a → i = j
  pn : ∀ a, Pn a → H0 a = none ∧ a ∉ ρ ∧ ∀ i, ¬ OwAt env σ i a
  ext : Ext ρ0 ρ H0 H
  st0 : ∃ s0, SR X.K fad Av0 ρ0 H0 s0
  fr : ∀ Av1 ρ1 H1, F Av1 ρ1 H1 → Gr X.K (Bd Av1 ρ1) (Bd (OwA Av0 env σ Pn) ρ) ρ1 ρ H1 H ∧ ∀ a, H1 a ≠ none → H a ≠ none
variable {F : Fset}
theorem SV.ev (v : SV X fad Av0 ρ0 H0 F Pn ρ H env σ st) : EV X.K fad (OwA Av0 env σ Pn) ρ H env σ st := ⟨v.sr, v.len, v.sh, fun i d h => by
  obtain ⟨a, h1, h2⟩ := v.ow i d h
  exact ⟨_, h1, h2.repW (v.own i a ⟨⟨d, h⟩, h1⟩).2⟩⟩
theorem SV.kept0 (v : SV X fad Av0 ρ0 H0 F Pn ρ H env σ st) : ∀ a, H0 a ≠ none → H a ≠ none := fun a h q => by
  by_cases z : a ∈ ρ0
  · obtain ⟨kvs, ek⟩ := v.sr.dK (v.ext.sub a z)
    rw [ek] at q; cases q
  · cases o : H0 a with
    | none => exact h o
    | some u => rw [v.ext.keep a u o z] at q; cases q
theorem SV.notAv0 (v : SV X fad Av0 ρ0 H0 F Pn ρ H env σ st) {a : Addr} (h : H0 a = none) : ¬ Av0 a := fun z => by
  obtain ⟨s0, sr0⟩ := v.st0
  obtain ⟨o, ho⟩ := Mt.some (sr0.av a z)
  rw [ho] at h; cases h
/-- an expression has gone by; ps: what it made for this def alone -/
theorem SV.step (v : SV X fad Av0 ρ0 H0 F no ρ H env σ st) (x : Ext ρ ρ1 H H1) (hp : ∀ a, Pn a → H a = none ∧ a ∉ ρ1) (sr1 : SR X.K fad (OwA Av0 env σ Pn) ρ1 H1 s1) : SV X fad Av0 ρ0 H0 F Pn ρ1 H1 env σ s1 := by
  have g : Gr X.K (Bd (OwA Av0 env σ no) ρ) (Bd (OwA Av0 env σ Pn) ρ1) ρ ρ1 H H1 := x.grB v.sr fun a ha => by
    rcases ha with (ha | ha | ha) | ha
    · exact .inl (.inl (.inl ha))
    · exact .inl (.inl (.inr (.inl ha)))
    · exact .inr (hp a ha).1
    · exact .inl (.inr ha)
  have kept : ∀ a, H a ≠ none → H1 a ≠ none := fun a h q => by
    by_cases z : a ∈ ρ
    · obtain ⟨kvs, ek⟩ := sr1.dK (x.sub a z)
      rw [ek] at q; cases q
    · cases o : H a with
      | none => exact h o
      | some u => rw [x.keep a u o z] at q; cases q
  refine ⟨sr1, v.len, fun i d h => ?_, fun i d h => ?_, fun i a h => ?_, v.inj, fun a h => ?_, v.ext.trans x v.kept0, v.st0, fun A r G h => ?_⟩
  · obtain ⟨w, h1, h2⟩ := v.sh i d h
    exact ⟨w, h1, Rep.gr g _ _ h2⟩
  · obtain ⟨a, h1, h2⟩ := v.ow i d h
    obtain ⟨o, ho, _⟩ := h2.some
    exact ⟨a, h1, h2.gr ((x.keep a o ho (v.own i a ⟨⟨d, h⟩, h1⟩).2).trans ho.symm) g⟩
  · obtain ⟨h1, h2⟩ := v.own i a h
    obtain ⟨⟨d, hd⟩, e⟩ := id h
    obtain ⟨a', e', c⟩ := v.ow i d hd
    rw [e] at e'
    cases e'
    obtain ⟨o, ho, _⟩ := c.some
    exact ⟨h1, x.notin ho h2⟩
  · refine ⟨?_, (hp a h).2, fun i z => ?_⟩
    · cases q : H0 a with
      | none => rfl
      | some o => exact absurd (hp a h).1 (v.kept0 a (by rw [q]; simp))
    · obtain ⟨⟨d, hd⟩, e⟩ := id z
      obtain ⟨a', e', c⟩ := v.ow i d hd
      rw [e] at e'
      cases e'
      obtain ⟨o, ho, _⟩ := c.some
      rw [(hp a h).1] at ho; cases ho
  · obtain ⟨g1, k1⟩ := v.fr A r G h
    exact ⟨g1.trans g, fun a h => kept a (k1 a h)⟩
theorem OwA_no {a : Addr} : OwA Av0 env σ no a ↔ Av0 a ∨ ∃ i, OwAt env σ i a := by
  constructor
  · rintro (h | h | h)
    · exact .inl h
    · exact .inr h
    · exact h.elim
  · rintro (h | h)
    · exact .inl h
    · exact .inr (.inl h)
theorem SR.sub (h : ∀ a, Av' a → Av a) (sr : SR X.K fad Av ρ H st) : SR X.K fad Av' ρ H st := ⟨sr.nd, sr.len, fun n a ob h1 h2 => by
  obtain ⟨kvs, ek, r⟩ := sr.obj n a ob h1 h2
  exact ⟨kvs, ek, r.gr (Gr.weak (K := X.K) fun b hb => hb.imp (h b) id)⟩, fun a ha => sr.av a (h a ha)⟩
theorem bd_sub {Av Av' : Addr → Prop} (h : ∀ a, Av' a → Av a) : ∀ a, Bd Av' ρ a → Bd Av ρ a := fun a q => q.imp (h a) id
/-- slots are written anew: fewer are owned -/
theorem SV.sub {Pn' : Addr → Prop} (v : SV X fad Av0 ρ0 H0 F Pn ρ H env σ st) (hl : env'.length = σ'.length) (hsh : ∀ (i : Nat) (d : D), env'[i]? = some (.sh d) → ∃ w, σ'[i]? = some (some w) ∧ Rep X.K fad H (Bd (OwA Av0 env σ Pn) ρ) ρ d w)
    (how : ∀ (i : Nat) (d : D), env'[i]? = some (.ow d) → (env[i]? = some (.ow d) ∧ σ'[i]? = σ[i]?) ∨ ∃ a, σ'[i]? = some (some (.ref a)) ∧ Cont X.K fad H (Bd (OwA Av0 env σ Pn) ρ) ρ d a ∧ Pn a ∧ ¬ Pn' a ∧ ∀ j d', env'[j]? = some (.ow d') → σ'[j]? = some (some (.ref a)) → j = i)
    (hpn : ∀ a, Pn' a → Pn a) : SV X fad Av0 ρ0 H0 F Pn' ρ H env' σ' st := by
  have back : ∀ i a, OwAt env' σ' i a → OwAt env σ i a ∨ (Pn a ∧ ¬ Pn' a ∧ ∀ j, OwAt env' σ' j a → j = i) := fun i a ⟨⟨d, hd⟩, e⟩ => by
    rcases how i d hd with ⟨h1, h2⟩ | ⟨b, h1, _, h2, h3, h4⟩
    · exact .inl ⟨⟨d, h1⟩, h2 ▸ e⟩
    · rw [e] at h1
      cases h1
      exact .inr ⟨h2, h3, fun j ⟨⟨d', hd'⟩, e'⟩ => h4 j d' hd' e'⟩
  have le : ∀ a, OwA Av0 env' σ' Pn' a → OwA Av0 env σ Pn a := fun a h => by
    rcases h with h | ⟨i, h⟩ | h
    · exact .inl h
    · rcases back i a h with h | ⟨h, _⟩
      · exact .inr (.inl ⟨i, h⟩)
      · exact .inr (.inr h)
    · exact .inr (.inr (hpn a h))
  have g : Gr X.K (Bd (OwA Av0 env σ Pn) ρ) (Bd (OwA Av0 env' σ' Pn') ρ) ρ ρ H H := Gr.weak fun a q => bd_sub le a q
  refine ⟨SR.sub le v.sr, hl, fun i d h => ?_, fun i d h => ?_, fun i a h => ?_, fun i j a h1 h2 => ?_, fun a h => ?_, v.ext, v.st0, fun A r G h => ?_⟩
  · obtain ⟨w, h1, h2⟩ := hsh i d h
    exact ⟨w, h1, Rep.gr g _ _ h2⟩
  · rcases how i d h with ⟨h1, h2⟩ | ⟨b, h1, h2, _⟩
    · obtain ⟨a, h3, h4⟩ := v.ow i d h1
      exact ⟨a, h2.trans h3, h4.gr rfl g⟩
    · exact ⟨b, h1, h2.gr rfl g⟩
  · rcases back i a h with h | ⟨h, _⟩
    · exact v.own i a h
    · exact ⟨(v.pn a h).1, (v.pn a h).2.1⟩
  · rcases back i a h1 with k1 | ⟨_, _, k1⟩
    · rcases back j a h2 with k2 | ⟨k2, _, k3⟩
      · exact v.inj i j a k1 k2
      · exact absurd k1 ((v.pn a k2).2.2 i)
    · exact (k1 j h2).symm
  · refine ⟨(v.pn a (hpn a h)).1, (v.pn a (hpn a h)).2.1, fun i z => ?_⟩
    rcases back i a z with z | ⟨_, z, _⟩
    · exact (v.pn a (hpn a h)).2.2 i z
    · exact z h
  · obtain ⟨g1, k1⟩ := v.fr A r G h
    exact ⟨g1.trans g, k1⟩
theorem SV.aft {ix : List Nat} (v : SV X fad Av0 ρ0 H0 F Pn ρ H env σ st) (a : Aft X fad (OwA Av0 env σ Pn) ρ H env env' σ σ' st ix) : SV X fad Av0 ρ0 H0 F Pn ρ H env' σ' st :=
  v.sub a.ev.len a.ev.sh (fun i d h => .inl (a.ow i d h)) fun _ h => h
theorem SV.setOw {Pn' : Addr → Prop} {i : Nat} {d : D} (v : SV X fad Av0 ρ0 H0 F Pn ρ H env σ st) (hi : i < env.length) (hp : Pn p) (c : Cont X.K fad H (Bd (OwA Av0 env σ Pn) ρ) ρ d p) (hpn : ∀ a, Pn' a → Pn a ∧ a ≠ p) : SV X fad Av0 ρ0 H0 F Pn' ρ H (env.set i (.ow d)) (σ.set i (some (.ref p))) st := by
  have hi' : i < σ.length := v.len ▸ hi
  refine v.sub (by rw [List.length_set, List.length_set]; exact v.len) (fun j d' h => ?_) (fun j d' h => ?_) fun a h => (hpn a h).1
  · rw [List.getElem?_set] at h ⊢
    by_cases hj : i = j
    · subst hj
      rw [if_pos rfl, if_pos hi] at h
      cases h
    · rw [if_neg hj] at h ⊢
      exact v.sh j d' h
  · rw [List.getElem?_set] at h
    by_cases hj : i = j
    · subst hj
      rw [if_pos rfl, if_pos hi] at h
      cases h
      refine .inr ⟨p, by rw [List.getElem?_set, if_pos rfl, if_pos hi'], c, hp, fun z => (hpn p z).2 rfl, fun k d2 h2 e2 => ?_⟩
      rw [List.getElem?_set] at h2 e2
      by_cases hk : i = k
      · exact hk.symm
      · rw [if_neg hk] at h2 e2
        exact absurd ⟨⟨d2, h2⟩, e2⟩ ((v.pn p hp).2.2 k)
    · rw [if_neg hj] at h
      exact .inl ⟨h, by rw [List.getElem?_set, if_neg hj]⟩
theorem SV.setSh {i : Nat} {d : D} {w : V} (v : SV X fad Av0 ρ0 H0 F Pn ρ H env σ st) (hi : i < env.length) (r : Rep X.K fad H (Bd (OwA Av0 env σ Pn) ρ) ρ d w) : SV X fad Av0 ρ0 H0 F Pn ρ H (env.set i (.sh d)) (σ.set i (some w)) st := by
  refine v.sub (v.ev.setSh r hi).len (v.ev.setSh r hi).sh (fun j d' h => .inl ?_) fun _ h => h
  rw [List.getElem?_set] at h
  by_cases hj : i = j
  · subst hj
    rw [if_pos rfl, if_pos hi] at h
    cases h
  · rw [if_neg hj] at h
    exact ⟨h, by rw [List.getElem?_set, if_neg hj]⟩
/-- what a def holds alone is written anew -/
theorem SV.upd {i : Nat} {d d' : D} {a : Addr} {o : HO} (v : SV X fad Av0 ρ0 H0 F no ρ H env σ st) (hi : env[i]? = some (.ow d)) (ha : σ[i]? = some (some (.ref a))) (hm : Mt (some o)) (hc : Cont X.K fad (upd H a o) (Bd (OwA Av0 env σ no) ρ) ρ d' a) :
    SV X fad Av0 ρ0 H0 F no ρ (upd H a o) (env.set i (.ow d')) σ st := by
  have hat : OwAt env σ i a := ⟨⟨d, hi⟩, ha⟩
  have hav : OwA Av0 env σ no a := .inr (.inl ⟨i, hat⟩)
  obtain ⟨h0, hn⟩ := v.own i a hat
  have g := upd_gr (X := X) (Av := OwA Av0 env σ no) (ρ := ρ) (o := o) (p := a) (H := H) (.inl hav) (v.sr.av a hav)
  have hlt : i < env.length := (List.getElem?_eq_some_iff.mp hi).1
  have iff : ∀ j b, OwAt (env.set i (.ow d')) σ j b ↔ OwAt env σ j b := fun j b => by
    unfold OwAt
    rw [List.getElem?_set]
    by_cases hj : i = j
    · subst hj
      rw [if_pos rfl, if_pos hlt]
      exact ⟨fun ⟨_, e⟩ => ⟨⟨d, hi⟩, e⟩, fun ⟨_, e⟩ => ⟨⟨d', rfl⟩, e⟩⟩
    · rw [if_neg hj]
  have eA : OwA Av0 (env.set i (.ow d')) σ no = OwA Av0 env σ no := by
    funext b
    unfold OwA
    simp only [iff]
  have sr' := v.sr.updO (o := o) hav hn hm
  refine ⟨by rw [eA]; exact sr', by rw [List.length_set]; exact v.len, fun j d2 h => ?_, fun j d2 h => ?_, fun j b h => v.own j b ((iff j b).mp h), fun j k b h1 h2 => v.inj j k b ((iff j b).mp h1) ((iff k b).mp h2), fun b h => h.elim, v.ext.updN h0, v.st0, fun A r G h => ?_⟩
  · rw [eA]
    rw [List.getElem?_set] at h
    by_cases hj : i = j
    · subst hj
      rw [if_pos rfl, if_pos hlt] at h
      cases h
    · rw [if_neg hj] at h
      obtain ⟨w, h1, h2⟩ := v.sh j d2 h
      exact ⟨w, h1, Rep.gr g _ _ h2⟩
  · rw [eA]
    rw [List.getElem?_set] at h
    by_cases hj : i = j
    · subst hj
      rw [if_pos rfl, if_pos hlt] at h
      cases h
      exact ⟨a, ha, hc⟩
    · rw [if_neg hj] at h
      obtain ⟨b, h1, h2⟩ := v.ow j d2 h
      have hab : b ≠ a := fun z => hj (v.inj i j a hat (z ▸ ⟨⟨d2, h⟩, h1⟩))
      exact ⟨b, h1, h2.gr (upd_ne hab) g⟩
  · obtain ⟨g1, k1⟩ := v.fr A r G h
    rw [eA]
    refine ⟨g1.trans g, fun b hb => ?_⟩
    by_cases z : b = a
    · subst z; rw [upd_same]; simp
    · rw [upd_ne z]; exact k1 b hb
/-- a list or dict is let go: it may be looked at by anybody, and is not changed any more -/
theorem SV.fz {i : Nat} {d : D} (v : SV X fad Av0 ρ0 H0 F no ρ H env σ st) (hi : env[i]? = some (.ow d)) : SV X fad Av0 ρ0 H0 F no ρ H (env.set i (.sh d)) σ st := by
  obtain ⟨a, ha, c⟩ := v.ow i d hi
  have hat : OwAt env σ i a := ⟨⟨d, hi⟩, ha⟩
  obtain ⟨h0, hn⟩ := v.own i a hat
  have hlt : i < env.length := (List.getElem?_eq_some_iff.mp hi).1
  have back : ∀ j b, OwAt (env.set i (.sh d)) σ j b → OwAt env σ j b ∧ j ≠ i := fun j b ⟨⟨d2, h⟩, e⟩ => by
    rw [List.getElem?_set] at h
    by_cases hj : i = j
    · subst hj
      rw [if_pos rfl, if_pos hlt] at h
      cases h
    · rw [if_neg hj] at h
      exact ⟨⟨⟨d2, h⟩, e⟩, fun z => hj z.symm⟩
  have le : ∀ b, OwA Av0 (env.set i (.sh d)) σ no b → OwA Av0 env σ no b := fun b h => by
    rcases h with h | ⟨j, h⟩ | h
    · exact .inl h
    · exact .inr (.inl ⟨j, (back j b h).1⟩)
    · exact h.elim
  have g : Gr X.K (Bd (OwA Av0 env σ no) ρ) (Bd (OwA Av0 (env.set i (.sh d)) σ no) ρ) ρ ρ H H := Gr.weak fun b q => bd_sub le b q
  have free : ¬ Bd (OwA Av0 (env.set i (.sh d)) σ no) ρ a := fun z => by
    rcases z with (z | ⟨j, z⟩ | z) | z
    · exact v.notAv0 h0 z
    · exact (back j a z).2 (v.inj j i a (back j a z).1 hat)
    · exact z
    · exact hn z
  refine ⟨SR.sub le v.sr, by rw [List.length_set]; exact v.len, fun j d2 h => ?_, fun j d2 h => ?_, fun j b h => v.own j b (back j b h).1, fun j k b h1 h2 => v.inj j k b (back j b h1).1 (back k b h2).1, fun b h => h.elim, v.ext, v.st0, fun A r G h => ?_⟩
  · rw [List.getElem?_set] at h
    by_cases hj : i = j
    · subst hj
      rw [if_pos rfl, if_pos hlt] at h
      cases h
      refine ⟨_, ha, ?_⟩
      have c' := c.gr (H' := H) rfl g
      cases c' with
      | lst h1 h2 => exact .lst free (.inl h1) h2
      | dct h1 h2 => exact .dct free h1 h2
    · rw [if_neg hj] at h
      obtain ⟨w, h1, h2⟩ := v.sh j d2 h
      exact ⟨w, h1, Rep.gr g _ _ h2⟩
  · rw [List.getElem?_set] at h
    by_cases hj : i = j
    · subst hj
      rw [if_pos rfl, if_pos hlt] at h
      cases h
    · rw [if_neg hj] at h
      obtain ⟨b, h1, h2⟩ := v.ow j d2 h
      exact ⟨b, h1, h2.gr rfl g⟩
  · obtain ⟨g1, k1⟩ := v.fr A r G h
    exact ⟨g1.trans g, k1⟩
end
end Snd
end

section
set_option autoImplicit false
set_option Elab.async false
set_option linter.all false
set_option maxRecDepth 100000
set_option maxHeartbeats 1000000
/-! Snd19: statements. -/
namespace Snd
open PySem PySem.Spec PyProof.Rows L2
open Mini (D Sl T Fl)
abbrev StF := Mini.Env → Mini.St → Option (Fl × Mini.Env × Mini.St)
section
variable {X : Cx} {fad : Nat → Addr} {H H' H0 H1 H2 : Hp} {Av Av' Av0 Bad Bad' Pn : Addr → Prop} {ρ ρ' ρ0 ρ1 ρ2 : List Addr} {st st' s1 : Mini.St} {pins : List (Addr × Obj)} {σ σ' : L2.St} {s : Shared} {env env' : Mini.Env} {p : Addr} {o : HO} {F : Fset}
def EndsOk (X : Cx) (fad : Nat → Addr) (Av0 : Addr → Prop) (ρ0 : List Addr) (H0 : Hp) (F : Fset) (fl : Fl) (env' : Mini.Env) (st' : Mini.St) (E : Ends) : Prop := match fl with
  | .nx => ∀ ρ' H' σ', SV X fad Av0 ρ0 H0 F no ρ' H' env' σ' st' → E.nx σ' H'
  | .bk => ∀ ρ' H' σ', SV X fad Av0 ρ0 H0 F no ρ' H' env' σ' st' → E.bk σ' H'
  | .ct => ∀ ρ' H' σ', SV X fad Av0 ρ0 H0 F no ρ' H' env' σ' st' → E.ct σ' H'
  | .rt d => ∀ ρ' H' v, Ext ρ0 ρ' H0 H' → SR X.K fad Av0 ρ' H' st' → Rep X.K fad H' (Bd Av0 ρ') ρ' d v → E.rt v H'
/-- the evaluator's reading of statements -/
def tFS (X : Cx) (fad : Nat → Addr) (g : StF) : TS := fun E σ H => ∃ (Av0 : Addr → Prop) (ρ0 : List Addr) (H0 : Hp) (F : Fset) (ρ : List Addr) (env : Mini.Env) (st : Mini.St) (fl : Fl) (env' : Mini.Env) (st' : Mini.St),
  SV X fad Av0 ρ0 H0 F no ρ H env σ st ∧ g env st = some (fl, env', st') ∧ EndsOk X fad Av0 ρ0 H0 F fl env' st' E
/-! ### name = value -/
abbrev tSet (X : Cx) (i : Nat) (te : TE) : TS := fun E σ H => te σ H fun x H1 => E.nx (σ.set i (some x)) H1
abbrev asgF (tg : T) (f : EvF) : StF := fun env st => (f env st).bind fun (x, s1) => (Mini.asgT tg x env).map fun env' => (.nx, env', s1)
theorem ps_asgF {stm : Stmt} {tg : T} {f : EvF} (h : PS X stm (fun E σ H => tF X.K fad .val f σ H fun x H1 => tFG X fad tg x σ H1 E.nx)) : PS X stm (tFS X fad (asgF tg f)) := by
  refine h.imp fun E σ H h => ?_
  obtain ⟨Av0, ρ0, H0, F, ρ, env, st, fl, env', st', v, e, q⟩ := h
  obtain ⟨⟨x, s1⟩, e1, e⟩ := Option.bind_eq_some_iff.mp e
  obtain ⟨env1, e2, e⟩ := Option.map_eq_some_iff.mp e
  cases e
  refine ⟨_, ρ, env, st, x, _, v.ev, e1, fun ρ1 H1 w x1 r1 p1 => ?_⟩
  have v1 := v.step x1 (fun _ h => h.elim) r1
  exact ⟨_, ρ1, env, _, x, _, v1.ev, p1, e2, fun σ' a => q ρ1 H1 σ' (v1.aft a)⟩
/-- name = [..]: as a value that others may look at -/
theorem ps_asgC {stm : Stmt} {i : Nat} {f : EvF} (ho : ∀ env st d st', f env st = some (d, st') → Mini.ownable d = true) (h : PS X stm (tSet X i (tFr X fad f))) : PS X stm (tFS X fad (asgF (.var i) f)) := by
  refine h.imp fun E σ H h => tFr_of (kd := .val) ho ?_
  obtain ⟨Av0, ρ0, H0, F, ρ, env, st, fl, env', st', v, e, q⟩ := h
  obtain ⟨⟨x, s1⟩, e1, e⟩ := Option.bind_eq_some_iff.mp e
  obtain ⟨env1, e2, e⟩ := Option.map_eq_some_iff.mp e
  cases e
  refine ⟨_, ρ, env, st, x, _, v.ev, e1, fun ρ1 H1 w x1 r1 p1 => ?_⟩
  have v1 := v.step x1 (fun _ h => h.elim) r1
  obtain ⟨hi, rfl⟩ := setV_some e2
  exact q ρ1 H1 _ (v1.setSh hi p1)
abbrev asgOF (i : Nat) (f : EvF) : StF := fun env st => (f env st).bind fun (x, s1) => if Mini.ownable x then (Mini.setV env i (.ow x)).map fun env' => (.nx, env', s1) else none
theorem ps_asgO {stm : Stmt} {i : Nat} {f : EvF} (h : PS X stm (tSet X i (tFr X fad f))) : PS X stm (tFS X fad (asgOF i f)) := by
  refine h.imp fun E σ H h => ?_
  obtain ⟨Av0, ρ0, H0, F, ρ, env, st, fl, env', st', v, e, q⟩ := h
  obtain ⟨⟨x, s1⟩, e1, e⟩ := Option.bind_eq_some_iff.mp e
  simp only at e
  split at e <;> try cases e
  rename_i ho
  obtain ⟨env1, e2, e⟩ := Option.map_eq_some_iff.mp e
  cases e
  obtain ⟨hi, rfl⟩ := setV_some e2
  refine ⟨_, ρ, env, st, x, _, v.ev, e1, ho, fun ρ1 H1 p x1 hp hn r1 c => ?_⟩
  have eA : Av1 (OwA Av0 env σ no) p = OwA Av0 env σ fun a => a = p := by
    funext a
    apply propext
    constructor
    · rintro ((h | h | h) | h)
      · exact .inl h
      · exact .inr (.inl h)
      · exact h.elim
      · exact .inr (.inr h)
    · rintro (h | h | h)
      · exact .inl (.inl h)
      · exact .inl (.inr (.inl h))
      · exact .inr h
  rw [eA] at r1 c
  have v1 : SV X fad Av0 ρ0 H0 F (fun a => a = p) ρ1 H1 env σ _ := v.step x1 (fun a h => by subst h; exact ⟨hp, hn⟩) r1
  exact q ρ1 H1 _ (v1.setOw hi rfl c fun a h => h.elim)
theorem swNone {e : Expr} {o : Option Expr} {line : Nat} {env : Env} (h1 : ∀ a b c d, e ≠ .ListComp a b c d) (h2 : ∀ a b c d, e ≠ .SetComp a b c d) (h3 : ∀ a b c d f, e ≠ .DictComp a b c d f) : swapsWith e o line env = pure false := by
  cases e <;> first | rfl | (exact absurd rfl (h1 _ _ _ _)) | (exact absurd rfl (h2 _ _ _ _)) | (exact absurd rfl (h3 _ _ _ _ _))
/-- no comprehension -/
structure NoC (e : Expr) : Prop where
  lc : ∀ a b c d, e ≠ .ListComp a b c d
  sc : ∀ a b c d, e ≠ .SetComp a b c d
  dc : ∀ a b c d f, e ≠ .DictComp a b c d f
theorem NoC.sw {e : Expr} (h : NoC e) {o : Option Expr} {line : Nat} {env : Env} : swapsWith e o line env = pure false := swNone h.lc h.sc h.dc
theorem ps_setF {i : Nat} {x : Str} {e : Expr} {te : TE} {pos pos' : Pos} (hN : X.N.Nodup) (hi : X.N[i]? = some x) (hx : Loc X.env.scope x) (he : PE X e te) (hn : swapsWith e (some (.Name x pos')) pos.line X.env = pure false) (hf : X.fn x = true ∨ X.env.scope.names.lookup x = some .local) :
    PS X (.Assign [.Name x pos'] e pos) (tSet X i te) := (ps_set hN hi hx he hn hf).imp fun E σ H h => h
/-! ### m[k] = value -/
theorem RepO.put {K : PySem.W.Frag} {k : Str} {d : D} {v : V} : ∀ {ob : List (List Nat × D)} {kvs : List (Key × V)}, RepO K fad H Bad ρ ob kvs → Rep K fad H Bad ρ d v → RepO K fad H Bad ρ (Mini.putS ob (codes k) d) (putK kvs (.inr k) v) := by
  have hany : ∀ {ob : List (List Nat × D)} {kvs : List (Key × V)}, RepO K fad H Bad ρ ob kvs → (ob.any fun p => p.1 == codes k) = (kvs.any fun kv => decide (kv.1 = .inr k)) := by
    intro ob kvs r
    induction r with
    | nil => rfl
    | @cons x d v r w _ _ ih =>
      rw [List.any_cons, List.any_cons, ih]
      congr 1
      by_cases q : x = k
      · subst q; simp
      · have n1 : (codes x == codes k) = false := by rw [beq_eq_false_iff_ne]; exact fun z => q (codes_inj z)
        have n2 : ¬ ((Sum.inr x : Key) = Sum.inr k) := fun z => q (Sum.inr.inj z)
        simp only [n1, n2, decide_false]
  have hmap : ∀ {ob : List (List Nat × D)} {kvs : List (Key × V)}, RepO K fad H Bad ρ ob kvs → Rep K fad H Bad ρ d v → RepO K fad H Bad ρ (ob.map fun p => if p.1 == codes k then (p.1, d) else p) (kvs.map fun kv => if kv.1 = .inr k then (kv.1, v) else kv) := by
    intro ob kvs r rd
    induction r with
    | nil => exact .nil
    | @cons x d' v' r w h _ ih =>
      rw [List.map_cons, List.map_cons]
      by_cases q : x = k
      · subst q
        simp only [beq_self_eq_true, if_true]
        exact .cons rd ih
      · have n1 : (codes x == codes k) = false := by rw [beq_eq_false_iff_ne]; exact fun z => q (codes_inj z)
        have n2 : ¬ ((Sum.inr x : Key) = Sum.inr k) := fun z => q (Sum.inr.inj z)
        simp only [n1, n2, if_false, Bool.false_eq_true]
        exact .cons h ih
  have happ : ∀ {ob : List (List Nat × D)} {kvs : List (Key × V)}, RepO K fad H Bad ρ ob kvs → Rep K fad H Bad ρ d v → RepO K fad H Bad ρ (ob ++ [(codes k, d)]) (kvs ++ [(.inr k, v)]) := by
    intro ob kvs r rd
    induction r with
    | nil => exact .cons rd .nil
    | cons h _ ih => exact .cons h ih
  intro ob kvs r rd
  unfold Mini.putS putK
  rw [hany r]
  split
  · exact hmap r rd
  · exact happ r rd
theorem RepO.length {K : PySem.W.Frag} {ob : List (List Nat × D)} {kvs : List (Key × V)} (r : RepO K fad H Bad ρ ob kvs) : ob.length = kvs.length := by
  induction r with
  | nil => rfl
  | cons _ _ ih => rw [List.length_cons, List.length_cons, ih]
theorem SR.putO (sr : SR X.K fad Av ρ H st) {n : Nat} {a : Addr} {ob ob' : List (List Nat × D)} {ws ws' : List (Key × V)} (hn : ρ[n]? = some a) (hs : st[n]? = some ob) (hH : H a = some (.dK ws)) (r : RepO X.K fad H (Bd Av ρ) ρ ob' ws') : SR X.K fad Av ρ (upd H a (.dK ws')) (st.set n ob') := by
  have g := upd_gr (X := X) (Av := Av) (ρ := ρ) (o := .dK ws') (p := a) (H := H) (.inr (List.mem_of_getElem? hn)) (by rw [hH]; trivial)
  have hlt : n < st.length := (List.getElem?_eq_some_iff.mp hs).1
  refine ⟨sr.nd, by rw [List.length_set]; exact sr.len, fun m b oc h1 h2 => ?_, fun b hb => ?_⟩
  · rw [List.getElem?_set] at h2
    by_cases hm : n = m
    · subst hm
      rw [if_pos rfl, if_pos hlt] at h2
      cases h2
      rw [hn] at h1
      cases h1
      exact ⟨ws', upd_same, r.gr g⟩
    · rw [if_neg hm] at h2
      obtain ⟨kvs, ek, rr⟩ := sr.obj m b oc h1 h2
      have hab : b ≠ a := fun z => by
        subst z
        obtain ⟨l1, q1⟩ := List.getElem?_eq_some_iff.mp hn
        obtain ⟨l2, q2⟩ := List.getElem?_eq_some_iff.mp h1
        exact hm ((List.getElem_inj sr.nd).mp (q1.trans q2.symm))
      exact ⟨kvs, by rw [upd_ne hab]; exact ek, rr.gr g⟩
  · by_cases z : b = a
    · subst z; rw [upd_same]; trivial
    · rw [upd_ne z]; exact sr.av b hb
abbrev asgMF (fm fk fe : EvF) : StF := fun env st => (fe env st).bind fun (x, s1) => (fm env s1).bind fun (r, s2) => (fk env s2).bind fun (y, s3) => match r, y with
      | .ref n, .str k => (s3[n]?).bind fun o => if o.length < Mini.LIM then some (.nx, env, s3.set n (Mini.putS o k x)) else none
      | _, _ => none
theorem ps_asgMF {m k e : Expr} {pos pos' : Pos} {fm fk fe : EvF} (hu : X.A.units + 1 < cLine) (hm : PE X m (tF X.K fad .val fm)) (hk : PE X k (tF X.K fad .bor fk)) (he : PE X e (tF X.K fad .val fe)) (hs : swapsWith e (some (.Subscript m k pos')) pos.line X.env = pure false) :
    PS X (.Assign [.Subscript m k pos'] e pos) (tFS X fad (asgMF fm fk fe)) := by
  refine (ps_dput hu hm hk he hs).imp fun E σ H h => ?_
  obtain ⟨Av0, ρ0, H0, F, ρ, env, st, fl, env', st', v, e, q⟩ := h
  obtain ⟨⟨x, s1⟩, e1, e⟩ := Option.bind_eq_some_iff.mp e
  obtain ⟨⟨r, s2⟩, e2, e⟩ := Option.bind_eq_some_iff.mp e
  obtain ⟨⟨y, s3⟩, e3, e⟩ := Option.bind_eq_some_iff.mp e
  have hr : ∃ n, r = .ref n := by cases r <;> first | exact ⟨_, rfl⟩ | (cases e; done)
  obtain ⟨n, rfl⟩ := hr
  have hy : ∃ k, y = .str k := by cases y <;> first | exact ⟨_, rfl⟩ | (cases e; done)
  obtain ⟨k, rfl⟩ := hy
  obtain ⟨ob, e4, e⟩ := Option.bind_eq_some_iff.mp e
  obtain ⟨hz, e⟩ := ite_some e
  cases e
  refine ⟨_, ρ, env, st, x, s1, v.ev, e1, fun ρ1 H1 w x1 r1 p1 => ?_⟩
  have v1 := v.step x1 (fun _ h => h.elim) r1
  refine ⟨_, ρ1, env, s1, _, s2, v1.ev, e2, fun ρ2 H2 u x2 r2 p2 => ?_⟩
  have v2 := v1.step x2 (fun _ h => h.elim) r2
  refine ⟨_, ρ2, env, s2, _, s3, v2.ev, e3, fun ρ3 H3 z x3 r3 p3 => ?_⟩
  have v3 := v2.step x3 (fun _ h => h.elim) r3
  have p1 : Rep X.K fad H1 (Bd (OwA Av0 env σ no) ρ1) ρ1 x w := p1
  have p2 : Rep X.K fad H2 (Bd (OwA Av0 env σ no) ρ2) ρ2 (.ref n) u := p2
  have p3 : RepW X.K fad H3 (OwA Av0 env σ no) ρ3 (.str k) z := p3
  obtain ⟨zk, rfl, ezk⟩ := p3.str_inv
  have p2' := p2.ext r2 x3
  cases p2' with
  | ref ha =>
    obtain ⟨ws, hw, ro⟩ := r3.obj _ _ _ ha e4
    have x13 := r1.trans r2 x2 x3
    have px := p1.ext r1 x13
    have lo : ob.length = ws.length := ro.length
    refine ⟨_, _, rfl, DPut.k (k := .inr zk) hw (by rw [← lo]; exact hz), ?_⟩
    refine q ρ3 _ σ (v3.step ?_ (fun _ h => h.elim) ?_)
    · refine ⟨fun b ob' h1 h2 => ?_, [], by simp, by simp⟩
      have hab : b ≠ _ := fun z => h2 (z ▸ List.mem_of_getElem? ha)
      rw [upd_ne hab]; exact h1
    · have := r3.putO ha e4 hw (RepO.put (k := zk) ro px)
      rw [ezk] at this
      exact this
/-! ### name op= value -/
theorem ps_augF {i : Nat} {x : Str} {e : Expr} {pos pos' : Pos} {f : EvF} {ob : Mini.Bin} {op : Operator} {g : Int → Int → Int} (hN : X.N.Nodup) (hi : X.N[i]? = some x) (hx : Loc X.env.scope x) (he : PE X e (tF X.K fad .bor f)) (ho : PIp X op (ipI g)) (hb : ∀ a b, Mini.binD ob (.int a) (.int b) = some (.int (g a b))) (hf : X.fn x = true ∨ X.env.scope.names.lookup x = some .local) :
    PS X (.AugAssign (.Name x pos') op e pos) (tFS X fad fun env st => (Mini.slotV env[i]?).bind fun x => (f env st).bind fun (y, s1) => match x, y with
      | .int _, .int _ => (Mini.binD ob x y).bind fun z => (Mini.setV env i (.sh z)).map fun env' => (.nx, env', s1)
      | _, _ => none) := by
  refine (ps_aug hN hi hx he ho hf).imp fun E σ H h => ?_
  obtain ⟨Av0, ρ0, H0, F, ρ, env, st, fl, env', st', v, e, q⟩ := h
  obtain ⟨x, e0, e⟩ := Option.bind_eq_some_iff.mp e
  obtain ⟨⟨y, s1⟩, e1, e⟩ := Option.bind_eq_some_iff.mp e
  have hx : ∃ n, x = .int n := by cases x <;> first | exact ⟨_, rfl⟩ | (cases e; done)
  obtain ⟨n, rfl⟩ := hx
  have hy : ∃ k, y = .int k := by cases y <;> first | exact ⟨_, rfl⟩ | (cases e; done)
  obtain ⟨k, rfl⟩ := hy
  obtain ⟨z, e2, e⟩ := Option.bind_eq_some_iff.mp e
  obtain ⟨env1, e3, e⟩ := Option.map_eq_some_iff.mp e
  cases e
  rw [hb] at e2
  cases e2
  obtain ⟨hl, rfl⟩ := setV_some e3
  obtain ⟨w, hw, rw'⟩ := v.sh i _ (slotV_some e0)
  cases rw'
  refine ⟨_, hw, _, ρ, env, st, _, _, v.ev, e1, fun ρ1 H1 u x1 r1 p1 => ?_⟩
  have v1 := v.step x1 (fun _ h => h.elim) r1
  exact ⟨n, k, rfl, RepW.int_inv p1, q ρ1 H1 _ (v1.setSh hl (.int _))⟩
/-! ### return, drop -/
theorem ps_retF {e : Expr} {pos : Pos} {f : EvF} (he : PE X e (tF X.K fad .val f)) : PS X (.Return (some e) pos) (tFS X fad fun env st => (f env st).bind fun (x, s1) => some (.rt x, env, s1)) := by
  refine (ps_ret he).imp fun E σ H h => ?_
  obtain ⟨Av0, ρ0, H0, F, ρ, env, st, fl, env', st', v, e, q⟩ := h
  obtain ⟨⟨x, s1⟩, e1, e⟩ := Option.bind_eq_some_iff.mp e
  cases e
  refine ⟨_, ρ, env, st, x, _, v.ev, e1, fun ρ1 H1 w x1 r1 p1 => ?_⟩
  have le : ∀ a, Av0 a → OwA Av0 env σ no a := fun a h => .inl h
  exact q ρ1 H1 w (v.ext.trans x1 v.kept0) (SR.sub le r1) (Rep.gr (Gr.weak fun a h => bd_sub le a h) _ _ p1)
theorem ps_retvF {x : Str} {i : Nat} {p pos : Pos} (hN : X.N[i]? = some x) (hv : Vis X.env.scope x) (hd : (x == ("__debug__" : Str)) = false) (hcd : (x == ("__classdict__" : Str)) = false) : PS X (.Return (some (.Name x p)) pos) (tFS X fad fun env st => (Mini.slotB env[i]?).map fun x => (.rt x, env, st)) := by
  refine (ps_ret (pe_var hN hv hd hcd)).imp fun E σ H h => ?_
  obtain ⟨Av0, ρ0, H0, F, ρ, env, st, fl, env', st', v, e, q⟩ := h
  obtain ⟨d, e1, e⟩ := Option.map_eq_some_iff.mp e
  cases e
  have le : ∀ a, Av0 a → OwA Av0 env σ no a := fun a h => .inl h
  have g : Gr X.K (Bd (OwA Av0 env σ no) ρ) (Bd Av0 ρ) ρ ρ H H := Gr.weak fun a h => bd_sub le a h
  rcases slotB_some e1 with e1 | e1
  · obtain ⟨w, hw, r⟩ := v.sh i d e1
    exact ⟨w, hw, q ρ H w v.ext (SR.sub le v.sr) (Rep.gr g _ _ r)⟩
  · obtain ⟨a, ha, c⟩ := v.ow i d e1
    obtain ⟨h0, hn⟩ := v.own i a ⟨⟨d, e1⟩, ha⟩
    have free : ¬ Bd Av0 ρ a := fun z => z.elim (v.notAv0 h0) hn
    refine ⟨_, ha, q ρ H _ v.ext (SR.sub le v.sr) ?_⟩
    have c' := c.gr (H' := H) rfl g
    cases c' with
    | lst h1 h2 => exact .lst free (.inl h1) h2
    | dct h1 h2 => exact .dct free h1 h2
theorem ps_expF {e : Expr} {pos : Pos} {f : EvF} (he : PE X e (tF X.K fad .bor f)) (hn : NoC e) : PS X (.Expr e pos) (tFS X fad fun env st => (f env st).map fun (_, s1) => (.nx, env, s1)) := by
  refine (ps_expr he hn.sw).imp fun E σ H h => ?_
  obtain ⟨Av0, ρ0, H0, F, ρ, env, st, fl, env', st', v, e, q⟩ := h
  obtain ⟨⟨x, s1⟩, e1, e⟩ := Option.map_eq_some_iff.mp e
  cases e
  exact ⟨_, ρ, env, st, x, _, v.ev, e1, fun ρ1 H1 w x1 r1 p1 => q ρ1 H1 σ (v.step x1 (fun _ h => h.elim) r1)⟩
end
end Snd
end

section
set_option autoImplicit false
set_option Elab.async false
set_option linter.all false
set_option maxRecDepth 100000
set_option maxHeartbeats 1000000
/-! Snd20: changes in place, branches, loops. -/
namespace Snd
open PySem PySem.Spec PyProof.Rows L2
open Mini (D Sl T Fl)
section
variable {X : Cx} {fad : Nat → Addr} {H H' H0 H1 H2 : Hp} {Av Av' Av0 Bad Bad' Pn : Addr → Prop} {ρ ρ' ρ0 ρ1 ρ2 : List Addr} {st st' s1 : Mini.St} {pins : List (Addr × Obj)} {σ σ' : L2.St} {s : Shared} {env env' : Mini.Env} {p : Addr} {o : HO} {F : Fset}
/-! ### x.append(e), x[k] = e -/
abbrev appF (i : Nat) (f : EvF) : StF := fun env st => (f env st).bind fun (x, s1) => match env[i]? with
      | some (.ow (.lst xs)) => if xs.length < Mini.LIM then some (.nx, env.set i (.ow (.lst (xs ++ [x]))), s1) else none
      | _ => none
theorem ps_appF {i : Nat} {x : Str} {e : Expr} {p1 apos cpos pos : Pos} {f : EvF} (hN : X.N[i]? = some x) (hv : Vis X.env.scope x) (hd : (x == ("__debug__" : Str)) = false) (hcd : (x == ("__classdict__" : Str)) = false) (he : PE X e (tF X.K fad .val f)) (hs : ∀ a p, e ≠ .Starred a p) (hline : (apos.endLine == cpos.line) = true)
    (hbase : attributeBase (.Name x p1) "append" X.env (eval (.Name x p1) X.env) = eval (.Name x p1) X.env) :
    PS X (.Expr (.Call (.Attribute (.Name x p1) "append" apos) [e] [] cpos) pos) (tFS X fad (appF i f)) := by
  have few : ((backTo cpos (starEach [e] X.env)).all (fun x => !x.1) && (backToKw cpos (keywordEach [] X.env)).all (fun x => x.1.isSome)
      && decide (([e] : List Expr).length + ([] : List Keyword).length + (if ([] : List Keyword).isEmpty then 0 else 1) < 30)) = true := by
    rw [noStar hs]; rfl
  refine (ps_expr (pe_bm PySem.F.plainAttrs_list PySem.F.slot_list_append PySem.F.type_list_append mt_append (pe_var hN hv hd hcd) (pa_cons he pa_nil (noStar hs)) hbase few hline (noStar hs) (by rfl)) (by rfl)).imp fun E σ H h => ?_
  obtain ⟨Av0, ρ0, H0, F, ρ, env, st, fl, env', st', v, e, q⟩ := h
  obtain ⟨⟨x, s1⟩, e1, e⟩ := Option.bind_eq_some_iff.mp e
  have hx : ∃ xs, env[i]? = some (.ow (.lst xs)) := by
    simp only at e
    split at e
    · rename_i h; exact ⟨_, h⟩
    · cases e
  obtain ⟨xs, ex⟩ := hx
  simp only [ex] at e
  obtain ⟨hz, e⟩ := ite_some e
  cases e
  obtain ⟨a, ha, c⟩ := v.ow i _ ex
  refine ⟨_, ha, ?_⟩
  cases c with
  | @lst _ _ vs h1 h2 =>
    refine ⟨.inl ⟨rfl, vs, .inl (.inl h1)⟩, ?_⟩
    refine ⟨_, ρ, env, st, x, _, v.ev, e1, fun ρ1 H1 w x1 r1 p1 => ?_⟩
    have v1 := v.step x1 (fun _ h => h.elim) r1
    have p1 : Rep X.K fad H1 (Bd (OwA Av0 env σ no) ρ1) ρ1 x w := p1
    obtain ⟨a', ha', c1⟩ := v1.ow i _ ex
    rw [ha] at ha'
    cases ha'
    cases c1 with
    | @lst _ _ vs' k1 k2 =>
      have hat : OwAt env σ i a := ⟨⟨_, ex⟩, ha⟩
      have hav : OwA Av0 env σ no a := .inr (.inl ⟨i, hat⟩)
      have g := upd_gr (X := X) (Av := OwA Av0 env σ no) (ρ := ρ1) (o := .lst (vs' ++ [w])) (p := a) (H := H1) (.inl hav) (by rw [k1]; trivial)
      refine ⟨a, vs', w, rfl, rfl, k1, by rw [← k2.length]; exact hz, ?_⟩
      exact q ρ1 _ σ (v1.upd ex ha trivial (.lst upd_same (RepL.gr g _ _ (k2.append (.cons p1 .nil)))))
abbrev setIF (i : Nat) (fk f : EvF) : StF := fun env st => (f env st).bind fun (x, s1) => (fk env s1).bind fun (y, s2) => match env[i]? with
      | some (.ow (.dct kvs)) => if Mini.isKeyTup y && kvs.all (fun p => Mini.isKeyTup p.1) && decide (kvs.length < Mini.LIM) then some (.nx, env.set i (.ow (.dct (Mini.put kvs y x))), s2) else none
      | _ => none
theorem ps_setIF {i : Nat} {x : Str} {k e : Expr} {p1 pos pos' : Pos} {fk f : EvF} (hu : X.A.units + 1 < cLine) (hN : X.N[i]? = some x) (hv : Vis X.env.scope x) (hd : (x == ("__debug__" : Str)) = false) (hcd : (x == ("__classdict__" : Str)) = false) (hk : PE X k (tF X.K fad .val fk)) (he : PE X e (tF X.K fad .val f)) (hs : swapsWith e (some (.Subscript (.Name x p1) k pos')) pos.line X.env = pure false) :
    PS X (.Assign [.Subscript (.Name x p1) k pos'] e pos) (tFS X fad (setIF i fk f)) := by
  refine (ps_dput hu (pe_var hN hv hd hcd) hk he hs).imp fun E σ H h => ?_
  obtain ⟨Av0, ρ0, H0, F, ρ, env, st, fl, env', st', v, e, q⟩ := h
  obtain ⟨⟨x, s1⟩, e1, e⟩ := Option.bind_eq_some_iff.mp e
  obtain ⟨⟨y, s2⟩, e2, e⟩ := Option.bind_eq_some_iff.mp e
  have hx : ∃ xs, env[i]? = some (.ow (.dct xs)) := by
    simp only at e
    split at e
    · rename_i h; exact ⟨_, h⟩
    · cases e
  obtain ⟨kvs, ex⟩ := hx
  simp only [ex] at e
  obtain ⟨hz, e⟩ := ite_some e
  cases e
  rw [Bool.and_eq_true, Bool.and_eq_true, decide_eq_true_eq] at hz
  obtain ⟨a, ha, c⟩ := v.ow i _ ex
  refine ⟨_, ρ, env, st, x, s1, v.ev, e1, fun ρ1 H1 w x1 r1 p1 => ?_⟩
  have v1 := v.step x1 (fun _ h => h.elim) r1
  have p1 : Rep X.K fad H1 (Bd (OwA Av0 env σ no) ρ1) ρ1 x w := p1
  refine ⟨_, ha, ?_⟩
  refine ⟨_, ρ1, env, s1, y, _, v1.ev, e2, fun ρ2 H2 u x2 r2 p2 => ?_⟩
  have v2 := v1.step x2 (fun _ h => h.elim) r2
  have p2 : Rep X.K fad H2 (Bd (OwA Av0 env σ no) ρ2) ρ2 y u := p2
  obtain ⟨a', ha', c2⟩ := v2.ow i _ ex
  rw [ha] at ha'
  cases ha'
  cases c2 with
  | @dct _ _ ws k1 k2 =>
    have hat : OwAt env σ i a := ⟨⟨_, ex⟩, ha⟩
    have hav : OwA Av0 env σ no a := .inr (.inl ⟨i, hat⟩)
    obtain ⟨ks, b, ek, rfl, hb⟩ := RepW.key hz.1.1 (.of p2)
    have g := upd_gr (X := X) (Av := OwA Av0 env σ no) (ρ := ρ2) (o := .dT (putK ws ks w)) (p := a) (H := H2) (.inl hav) (by rw [k1]; trivial)
    refine ⟨a, _, rfl, DPut.t (k := ks) k1 hb (by rw [← k2.length]; exact hz.2), ?_⟩
    exact q ρ2 _ σ (v2.upd ex ha trivial (.dct upd_same (RepK.gr g _ _ (k2.put ek (p1.ext r1 x2)))))
/-! ### one after another -/
theorem pss_nilF : PSs X [] (tFS X fad fun env st => some (.nx, env, st)) := by
  refine pss_nil.imp fun E σ H h => ?_
  obtain ⟨Av0, ρ0, H0, F, ρ, env, st, fl, env', st', v, e, q⟩ := h
  cases e
  exact q ρ H σ v
abbrev seqF (f g : StF) : StF := fun env st => (f env st).bind fun (fl, env1, st1) => match fl with
      | .nx => g env1 st1
      | fl => some (fl, env1, st1)
theorem pss_consF {st1 : Stmt} {sts : List Stmt} {f g : StF} (h1 : PS X st1 (tFS X fad f)) (h2 : PSs X sts (tFS X fad g)) : PSs X (st1 :: sts) (tFS X fad (seqF f g)) := by
  refine (pss_cons h1 h2).imp fun E σ H h => ?_
  obtain ⟨Av0, ρ0, H0, F, ρ, env, st, fl, env', st', v, e, q⟩ := h
  obtain ⟨⟨fl1, env1, s1⟩, e1, e⟩ := Option.bind_eq_some_iff.mp e
  refine ⟨Av0, ρ0, H0, F, ρ, env, st, fl1, env1, s1, v, e1, ?_⟩
  cases fl1 with
  | nx => exact fun ρ1 H1 σ1 v1 => ⟨Av0, ρ0, H0, F, ρ1, env1, s1, fl, env', st', v1, e, q⟩
  | rt d => cases e; exact q
  | bk => cases e; exact q
  | ct => cases e; exact q
/-- a list or dict is let go: no statement stands for it -/
abbrev fzF (i : Nat) : StF := fun env st => match env[i]? with
      | some (.ow d) => some (.nx, env.set i (.sh d), st)
      | _ => none
theorem pss_fzF {sts : List Stmt} {i : Nat} {g : StF} (h2 : PSs X sts (tFS X fad g)) : PSs X sts (tFS X fad (seqF (fzF i) g)) := by
  refine h2.imp fun E σ H h => ?_
  obtain ⟨Av0, ρ0, H0, F, ρ, env, st, fl, env', st', v, e, q⟩ := h
  obtain ⟨⟨fl1, env1, s1⟩, e1, e⟩ := Option.bind_eq_some_iff.mp e
  have hx : ∃ d, env[i]? = some (.ow d) := by
    simp only [fzF] at e1
    split at e1
    · rename_i h; exact ⟨_, h⟩
    · cases e1
  obtain ⟨d, ex⟩ := hx
  simp only [fzF, ex] at e1
  cases e1
  exact ⟨Av0, ρ0, H0, F, ρ, _, st, fl, env', st', v.fz ex, e, q⟩
theorem ps_brkF {pos : Pos} : PS X (.Break pos) (tFS X fad fun env st => some (.bk, env, st)) := by
  refine ps_break.imp fun E σ H h => ?_
  obtain ⟨Av0, ρ0, H0, F, ρ, env, st, fl, env', st', v, e, q⟩ := h
  cases e
  exact q ρ H σ v
theorem ps_cntF {pos : Pos} : PS X (.Continue pos) (tFS X fad fun env st => some (.ct, env, st)) := by
  refine ps_continue.imp fun E σ H h => ?_
  obtain ⟨Av0, ρ0, H0, F, ρ, env, st, fl, env', st', v, e, q⟩ := h
  cases e
  exact q ρ H σ v
theorem ps_pasF {pos : Pos} : PS X (.Pass pos) (tFS X fad fun env st => some (.nx, env, st)) := by
  refine ps_pass.imp fun E σ H h => ?_
  obtain ⟨Av0, ρ0, H0, F, ρ, env, st, fl, env', st', v, e, q⟩ := h
  cases e
  exact q ρ H σ v
theorem ps_ifF {c : Expr} {a b : List Stmt} {pos : Pos} {fc : EvF} {fa fb : StF} (hc : PT X c (tFT X.K fad fc)) (ha : PSs X a (tFS X fad fa)) (hb : PSs X b (tFS X fad fb)) :
    PS X (.If c a b pos) (tFS X fad fun env st => (fc env st).bind fun (x, s1) => (Mini.tru x).bind fun t => if t then fa env s1 else fb env s1) := by
  refine (ps_if hc ha hb).imp fun E σ H h => ?_
  obtain ⟨Av0, ρ0, H0, F, ρ, env, st, fl, env', st', v, e, q⟩ := h
  obtain ⟨⟨x, s1⟩, e1, e⟩ := Option.bind_eq_some_iff.mp e
  obtain ⟨t, e2, e⟩ := Option.bind_eq_some_iff.mp e
  rw [tru_bl e2] at e1
  refine ⟨_, ρ, env, st, t, s1, v.ev, e1, fun ρ1 H1 x1 r1 => ?_⟩
  have v1 := v.step x1 (fun _ h => h.elim) r1
  cases t with
  | true => exact iteT ⟨Av0, ρ0, H0, F, ρ1, env, s1, fl, env', st', v1, by simpa using e, q⟩
  | false => exact iteF ⟨Av0, ρ0, H0, F, ρ1, env, s1, fl, env', st', v1, by simpa using e, q⟩
/-! ### while -/
theorem ps_whlF {c : Expr} {body : List Stmt} {pos : Pos} {fc : EvF} {fb : StF} (n : Nat) (hp : PassesOwn (model X.prog X.w) X.A X.env X.xe) (hc : PT X c (tFT X.K fad fc)) (hb : PSs X body (tFS X fad fb)) :
    PS X (.While c body [] pos) (tFS X fad (Mini.whlGo fc fb n)) := by
  refine (ps_while hp hc hb).imp fun E σ H h => ?_
  obtain ⟨Av0, ρ0, H0, F, ρ, env, st, fl, env', st', v, e, q⟩ := h
  refine ⟨fun m σ H => ∃ ρ env st, SV X fad Av0 ρ0 H0 F no ρ H env σ st ∧ Mini.whlGo fc fb m env st = some (fl, env', st'), ⟨n, ρ, env, st, v, e⟩, ?_⟩
  rintro m σ1 H1 ⟨ρ1, env1, s1, v1, e1⟩
  cases m with
  | zero => cases e1
  | succ m =>
    unfold Mini.whlGo at e1
    obtain ⟨⟨x, s2⟩, e2, e1⟩ := Option.bind_eq_some_iff.mp e1
    obtain ⟨t, e3, e1⟩ := Option.bind_eq_some_iff.mp e1
    rw [tru_bl e3] at e2
    refine ⟨_, ρ1, env1, s1, t, s2, v1.ev, e2, fun ρ2 H2 x2 r2 => ?_⟩
    have v2 := v1.step x2 (fun _ h => h.elim) r2
    cases t with
    | true =>
      simp only [if_true] at e1
      obtain ⟨⟨fl3, env3, s3⟩, e4, e1⟩ := Option.bind_eq_some_iff.mp e1
      refine iteT ⟨fun σ' H' => ∃ ρ' , SV X fad Av0 ρ0 H0 F no ρ' H' env3 σ' s3 ∧ Mini.whlGo fc fb m env3 s3 = some (fl, env', st'), fun σ' H' ⟨ρ', v', e'⟩ => ⟨m, Nat.lt_succ_self m, ρ', env3, s3, v', e'⟩, ?_⟩
      refine ⟨Av0, ρ0, H0, F, ρ2, env1, s2, fl3, env3, s3, v2, e4, ?_⟩
      cases fl3 with
      | nx => exact fun ρ' H' σ' v' => ⟨ρ', v', e1⟩
      | ct => exact fun ρ' H' σ' v' => ⟨ρ', v', e1⟩
      | bk => cases e1; exact q
      | rt d => cases e1; exact q
    | false =>
      simp only [Bool.false_eq_true, if_false] at e1
      cases e1
      exact iteF (q ρ2 H2 σ1 v2)
/-! ### for -/
theorem SV.frame {F' : Fset} (v : SV X fad Av0 ρ0 H0 F Pn ρ H env σ st) (h : ∀ A r G, F' A r G → F A r G ∨ (A = OwA Av0 env σ Pn ∧ r = ρ ∧ G = H)) : SV X fad Av0 ρ0 H0 F' Pn ρ H env σ st :=
  ⟨v.sr, v.len, v.sh, v.ow, v.own, v.inj, v.pn, v.ext, v.st0, fun A r G hf => by
    rcases h A r G hf with hf | ⟨rfl, rfl, rfl⟩
    · exact v.fr A r G hf
    · exact ⟨Gr.weak fun _ h => h, fun _ h => h⟩⟩
theorem forGo_cons {turn : D → StF} {x : D} {xs : List D} {fl : Fl} (h : Mini.forGo turn (x :: xs) env st = some (fl, env', st')) : ∃ f1 env1 s1, turn x env st = some (f1, env1, s1) ∧
    (((f1 = .nx ∨ f1 = .ct) ∧ Mini.forGo turn xs env1 s1 = some (fl, env', st')) ∨ (f1 = .bk ∧ fl = .nx ∧ env' = env1 ∧ st' = s1) ∨ ∃ d, f1 = .rt d ∧ fl = .rt d ∧ env' = env1 ∧ st' = s1) := by
  unfold Mini.forGo at h
  obtain ⟨⟨f1, env1, s1⟩, e1, h⟩ := Option.bind_eq_some_iff.mp h
  refine ⟨f1, env1, s1, e1, ?_⟩
  cases f1 with
  | nx => exact .inl ⟨.inl rfl, h⟩
  | ct => exact .inl ⟨.inr rfl, h⟩
  | bk => cases h; exact .inr (.inl ⟨rfl, rfl, rfl, rfl⟩)
  | rt d => cases h; exact .inr (.inr ⟨d, rfl, rfl, rfl, rfl⟩)
theorem ps_forF {tg iter : Expr} {body : List Stmt} {pos : Pos} {tgT : T} {f : EvF} {fb : StF} (hp : PassesOwn (model X.prog X.w) X.A X.env X.xe) (hc : X.calm = true) (hi : PI X tg iter (tFI X.K fad false f)) (hg : PG X tg (tFG X fad tgT)) (hb : PSs X body (tFS X fad fb)) (hs : ∀ x, foldedSetIterable iter X.env x = pure x) :
    PS X (.For tg iter body [] pos) (tFS X fad fun env st => (f env st).bind fun (x, s1) => (Mini.seqD x).bind fun xs => Mini.forGo (fun d env st => (Mini.asgT tgT d env).bind fun env' => fb env' st) xs env s1) := by
  refine (ps_for hp hc hi hg hb hs).imp fun E σ H h => ?_
  obtain ⟨Av0, ρ0, H0, F, ρ, env, st, fl, env', st', v, e, q⟩ := h
  obtain ⟨⟨x, s1⟩, e1, e⟩ := Option.bind_eq_some_iff.mp e
  obtain ⟨xs, e2, e⟩ := Option.bind_eq_some_iff.mp e
  refine ⟨_, ρ, env, st, x, xs, s1, v.ev, e1, e2, fun ρ1 H1 J x1 r1 S => ?_⟩
  have S : Src X.K fad J xs (LF X.K (OwA Av0 env σ no) ρ1 H1) := S
  have v1 := v.step x1 (fun _ h => h.elim) r1
  let F1 : Fset := fun A r G => F A r G ∨ (A = OwA Av0 env σ no ∧ r = ρ1 ∧ G = H1)
  have v1' : SV X fad Av0 ρ0 H0 F1 no ρ1 H1 env σ s1 := v1.frame fun A r G h => h
  refine ⟨fun i m σ H => m = xs.length - i ∧ i ≤ xs.length ∧ ∃ ρi envi sti, SV X fad Av0 ρ0 H0 F1 no ρi H envi σ sti ∧ Mini.forGo (fun d env st => (Mini.asgT tgT d env).bind fun env' => fb env' st) (xs.drop i) envi sti = some (fl, env', st'), ⟨xs.length, by simp, Nat.zero_le _, ρ1, env, s1, v1', by simpa using e⟩, ?_⟩
  rintro i m σi Hi ⟨rfl, hi', ρi, envi, sti, vi, ei⟩
  have hL := (vi.fr _ _ _ (.inr ⟨rfl, rfl, rfl⟩)).1
  by_cases hlt : i < xs.length
  · rw [mem_of_drop hlt] at ei
    obtain ⟨f1, env1, s3, g1, g2⟩ := forGo_cons ei
    obtain ⟨env2, g3, g4⟩ := Option.bind_eq_some_iff.mp g1
    refine .inr ⟨S.go ρi Hi _ hL i hlt, fun σ' H' => ∃ ρ', SV X fad Av0 ρ0 H0 F1 no ρ' H' env1 σ' s3 ∧ Mini.forGo (fun d env st => (Mini.asgT tgT d env).bind fun env' => fb env' st) (xs.drop (i + 1)) env1 s3 = some (fl, env', st'), fun σ' H' ⟨ρ', v', e'⟩ => ⟨xs.length - (i + 1), by omega, rfl, by omega, ρ', env1, s3, v', e'⟩, fun y H' hy => ?_⟩
    obtain ⟨dx, hdx, hy⟩ := S.yld ρi Hi _ hL i y H' hlt hy
    have hdx' : xs[i] = dx := by
      rw [List.getElem?_eq_getElem hlt] at hdx
      exact Option.some.inj hdx
    rw [hdx'] at g3
    have item : ∃ vy : SV X fad Av0 ρ0 H0 F1 no ρi H' envi σi sti, Rep X.K fad H' (Bd (OwA Av0 envi σi no) ρi) ρi dx y := by
      rcases hy with ⟨rfl, r⟩ | ⟨pp, vs, ds, hq, rfl, rfl, rfl, r⟩
      · exact ⟨vi, r⟩
      · exact ⟨vi.step (Ext.new hq) (fun _ h => h.elim) (vi.sr.new hq), vi.sr.newT hq r⟩
    obtain ⟨vy, py⟩ := item
    refine ⟨_, ρi, envi, sti, dx, env2, vy.ev, py, g3, fun σ2 a => ?_⟩
    refine ⟨Av0, ρ0, H0, F1, ρi, env2, sti, f1, env1, s3, vy.aft a, g4, ?_⟩
    rcases g2 with ⟨h1, h2⟩ | ⟨rfl, rfl, rfl, rfl⟩ | ⟨d, rfl, rfl, rfl, rfl⟩
    · rcases h1 with rfl | rfl
      · exact fun ρ' H' σ' v' => ⟨ρ', v', h2⟩
      · exact fun ρ' H' σ' v' => ⟨ρ', v', h2⟩
    · exact fun ρ' H' σ' v' => q ρ' H' σ' (v'.frame fun A r G h => .inl (.inl h))
    · exact q
  · have hi2 : xs.length ≤ i := by omega
    refine .inl ⟨S.stop ρi Hi _ hL i hi2, ?_⟩
    have ed : xs.drop i = [] := List.drop_eq_nil_of_le hi2
    rw [ed] at ei
    cases ei
    exact q ρi Hi σi (vi.frame fun A r G h => .inl (.inl h))
end
end Snd
end

section
set_option autoImplicit false
set_option Elab.async false
set_option linter.all false
set_option maxRecDepth 100000
set_option maxHeartbeats 1000000
/-! Snd21: several names at once. -/
namespace Snd
open PySem PySem.Spec PyProof.Rows L2
open Mini (D Sl T Fl)
section
variable {X : Cx} {fad : Nat → Addr} {H H' H0 H1 H2 : Hp} {Av Av' Av0 Bad Bad' Pn : Addr → Prop} {ρ ρ' ρ0 ρ1 ρ2 : List Addr} {st st' s1 : Mini.St} {pins : List (Addr × Obj)} {σ σ' : L2.St} {s : Shared} {env env' : Mini.Env} {p : Addr} {o : HO} {F : Fset}
abbrev SlF := Mini.Env → Mini.St → Option (List Sl × Mini.St)
/-- values, the new ones among them this def's own: ps -/
inductive RepS (K : PySem.W.Frag) (fad : Nat → Addr) (H : Hp) (Av : Addr → Prop) (ρ : List Addr) : List Sl → List V → List Addr → Prop
  | nil : RepS K fad H Av ρ [] [] []
  | sh {d : D} {v : V} {xs : List Sl} {vs : List V} {ps : List Addr} : Rep K fad H (Bd Av ρ) ρ d v → RepS K fad H Av ρ xs vs ps → RepS K fad H Av ρ (.sh d :: xs) (v :: vs) ps
  | ow {d : D} {p : Addr} {xs : List Sl} {vs : List V} {ps : List Addr} : Cont K fad H (Bd Av ρ) ρ d p → p ∉ ps → RepS K fad H Av ρ xs vs ps → RepS K fad H Av ρ (.ow d :: xs) (.ref p :: vs) (p :: ps)
/-- what is new: ps -/
abbrev AvL (Av : Addr → Prop) (ps : List Addr) : Addr → Prop := fun a => Av a ∨ a ∈ ps
def tFP (X : Cx) (fad : Nat → Addr) (f : SlF) : TA := fun σ H Q => ∃ (Av : Addr → Prop) (ρ : List Addr) (env : Mini.Env) (st : Mini.St) (xs : List Sl) (st' : Mini.St), EV X.K fad Av ρ H env σ st ∧ f env st = some (xs, st') ∧
  ∀ ρ' H' vs ps, Ext ρ ρ' H H' → (∀ p ∈ ps, H p = none ∧ p ∉ ρ') → SR X.K fad (AvL Av ps) ρ' H' st' → RepS X.K fad H' (AvL Av ps) ρ' xs vs ps → Q vs H'
theorem RepS.gr {K : PySem.W.Frag} {xs : List Sl} {vs : List V} {ps : List Addr} (g : Gr K (Bd Av ρ) (Bd Av' ρ') ρ ρ' H H') (hp : ∀ p ∈ ps, H' p = H p) (r : RepS K fad H Av ρ xs vs ps) : RepS K fad H' Av' ρ' xs vs ps := by
  induction r with
  | nil => exact .nil
  | sh r _ ih => exact .sh (Rep.gr g _ _ r) (ih hp)
  | ow c hn _ ih => exact .ow (c.gr (hp _ (List.mem_cons_self ..)) g) hn (ih fun p h => hp p (List.mem_cons_of_mem _ h))
theorem avL_nil : AvL Av [] = Av := by
  funext a
  simp [AvL]
theorem avL_cons {ps : List Addr} : AvL (Av1 Av p) ps = AvL Av (p :: ps) := by
  funext a
  simp only [AvL, Av1, List.mem_cons, or_assoc]
theorem pp_nil : PA X [] (tFP X fad fun _ st => some ([], st)) := by
  refine pa_nil.imp fun σ H Q h => ?_
  obtain ⟨Av, ρ, env, st, xs, st', ev, e, q⟩ := h
  cases e
  exact q ρ H [] [] Ext.refl (by simp) (by rw [avL_nil]; exact ev.sr) .nil
theorem pp_sh {e : Expr} {es : List Expr} {fa : EvF} {fr : SlF} (ha : PE X e (tF X.K fad .val fa)) (hr : PA X es (tFP X fad fr)) (hs : ∀ a p, e ≠ .Starred a p) :
    PA X (e :: es) (tFP X fad fun env st => (fa env st).bind fun (x, s1) => (fr env s1).bind fun (xs, s2) => some (.sh x :: xs, s2)) := by
  refine (pa_cons ha hr (noStar hs)).imp fun σ H Q h => ?_
  obtain ⟨Av, ρ, env, st, ds, st', ev, e, q⟩ := h
  obtain ⟨⟨x, s1⟩, e1, e⟩ := Option.bind_eq_some_iff.mp e
  obtain ⟨⟨xs, s2⟩, e2, e⟩ := Option.bind_eq_some_iff.mp e
  cases e
  refine ⟨Av, ρ, env, st, x, s1, ev, e1, fun ρ1 H1 v x1 r1 p1 => ?_⟩
  have p1 : Rep X.K fad H1 (Bd Av ρ1) ρ1 x v := p1
  refine ⟨Av, ρ1, env, s1, xs, _, ev.ext x1 r1, e2, fun ρ2 H2 vs ps x2 hp r2 p2 => ?_⟩
  refine q ρ2 H2 (v :: vs) ps (ev.sr.trans r1 x1 x2) (fun p h => ⟨none_back ev.sr x1 r1 (hp p h).1, (hp p h).2⟩) r2 (.sh (Rep.gr (x2.grB r1 fun a ha => ?_) _ _ p1) p2)
  rcases ha with (ha | ha) | ha
  · exact .inl (.inl ha)
  · exact .inr (hp a ha).1
  · exact .inl (.inr ha)
theorem pp_ow {e : Expr} {es : List Expr} {fa : EvF} {fr : SlF} (ha : PE X e (tFr X fad fa)) (hr : PA X es (tFP X fad fr)) (hs : ∀ a p, e ≠ .Starred a p) :
    PA X (e :: es) (tFP X fad fun env st => (fa env st).bind fun (x, s1) => if Mini.ownable x then (fr env s1).bind fun (xs, s2) => some (.ow x :: xs, s2) else none) := by
  refine (pa_cons ha hr (noStar hs)).imp fun σ H Q h => ?_
  obtain ⟨Av, ρ, env, st, ds, st', ev, e, q⟩ := h
  obtain ⟨⟨x, s1⟩, e1, e⟩ := Option.bind_eq_some_iff.mp e
  simp only at e
  split at e <;> try cases e
  rename_i ho
  obtain ⟨⟨xs, s2⟩, e2, e⟩ := Option.bind_eq_some_iff.mp e
  cases e
  refine ⟨Av, ρ, env, st, x, s1, ev, e1, ho, fun ρ1 H1 p x1 h0 hn r1 c1 => ?_⟩
  refine ⟨Av1 Av p, ρ1, env, s1, xs, _, ev.grO x1 h0 r1, e2, fun ρ2 H2 vs ps x2 hp r2 p2 => ?_⟩
  rw [avL_cons] at r2 p2
  obtain ⟨ob, hob, hmt⟩ := c1.some
  have hp2 : H2 p = some ob := x2.keep _ _ hob hn
  have n2 : p ∉ ρ2 := x2.notin hob hn
  have nps : p ∉ ps := fun z => by
    have := (hp p z).1
    rw [hob] at this; cases this
  refine q ρ2 H2 (.ref p :: vs) (p :: ps) (ev.sr.trans r1.drop x1 x2) (fun a h => ?_) r2 (.ow (c1.gr (hp2.trans hob.symm) (x2.grB r1 fun a ha => ?_)) nps p2)
  · rcases List.mem_cons.mp h with rfl | h
    · exact ⟨h0, n2⟩
    · exact ⟨none_back ev.sr x1 r1.drop (hp a h).1, (hp a h).2⟩
  · rcases ha with (ha | ha) | ha
    · exact .inl (.inl (.inl ha))
    · rcases List.mem_cons.mp ha with rfl | ha
      · exact .inl (.inl (.inr rfl))
      · exact .inr (hp a ha).1
    · exact .inl (.inr ha)
/-! ### the slots -/
/-- slots in a row get values -/
def setL (σ : L2.St) : List Nat → List V → L2.St
  | i :: is, v :: vs => setL (σ.set i (some v)) is vs
  | _, _ => σ
def setSl (env : Mini.Env) : List Nat → List Sl → Option Mini.Env
  | [], [] => some env
  | i :: is, x :: xs => (Mini.setV env i x).bind fun env' => setSl env' is xs
  | _, _ => none
theorem RepS.length {K : PySem.W.Frag} {xs : List Sl} {vs : List V} {ps : List Addr} (r : RepS K fad H Av ρ xs vs ps) : xs.length = vs.length := by
  induction r with
  | nil => rfl
  | sh _ _ ih => rw [List.length_cons, List.length_cons, ih]
  | ow _ _ _ ih => rw [List.length_cons, List.length_cons, ih]
theorem SV.setAll (is : List Nat) : ∀ {xs : List Sl} {vs : List V} {ps : List Addr} {env env' : Mini.Env} {σ : L2.St}, SV X fad Av0 ρ0 H0 F (fun a => a ∈ ps) ρ H env σ st → RepS X.K fad H (OwA Av0 env σ fun a => a ∈ ps) ρ xs vs ps → setSl env is xs = some env' →
    SV X fad Av0 ρ0 H0 F no ρ H env' (setL σ is vs) st := by
  induction is with
  | nil =>
    intro xs vs ps env env' σ v r e
    cases xs with
    | cons x xs => simp [setSl] at e
    | nil =>
      cases r
      cases e
      show SV X fad Av0 ρ0 H0 F no ρ H env σ st
      exact v.sub v.len v.sh (fun i d h => .inl ⟨h, rfl⟩) fun a h => h.elim
  | cons i is ih =>
    intro xs vs ps env env' σ v r e
    cases r with
    | nil => simp [setSl] at e
    | @sh d w xs vs ps r rr =>
      simp only [setSl] at e
      obtain ⟨env1, e1, e2⟩ := Option.bind_eq_some_iff.mp e
      obtain ⟨hi, rfl⟩ := setV_some e1
      have v1 := v.setSh hi r
      refine ih v1 (rr.gr (Gr.weak fun a h => ?_) fun _ _ => rfl) e2
      refine bd_sub (fun b hb => ?_) a h
      rcases hb with hb | ⟨j, ⟨d', h1⟩, h2⟩ | hb
      · exact .inl hb
      · refine .inr (.inl ⟨j, ?_⟩)
        rw [List.getElem?_set] at h1 h2
        by_cases hj : i = j
        · subst hj
          rw [if_pos rfl, if_pos hi] at h1
          cases h1
        · rw [if_neg hj] at h1 h2
          exact ⟨⟨d', h1⟩, h2⟩
      · exact .inr (.inr hb)
    | @ow d p xs vs ps c hn rr =>
      simp only [setSl] at e
      obtain ⟨env1, e1, e2⟩ := Option.bind_eq_some_iff.mp e
      obtain ⟨hi, rfl⟩ := setV_some e1
      have v1 : SV X fad Av0 ρ0 H0 F (fun a => a ∈ ps) ρ H (env.set i (.ow d)) (σ.set i (some (.ref p))) st := v.setOw hi (List.mem_cons_self ..) c fun a h => ⟨List.mem_cons_of_mem _ h, fun z => hn (z ▸ h)⟩
      refine ih v1 (rr.gr (Gr.weak fun a h => ?_) fun _ _ => rfl) e2
      refine bd_sub (fun b hb => ?_) a h
      rcases hb with hb | ⟨j, ⟨d', h1⟩, h2⟩ | hb
      · exact .inl hb
      · rw [List.getElem?_set] at h1 h2
        by_cases hj : i = j
        · subst hj
          rw [if_pos rfl, if_pos (v.len ▸ hi)] at h2
          cases h2
          exact .inr (.inr (List.mem_cons_self ..))
        · rw [if_neg hj] at h1 h2
          exact .inr (.inl ⟨j, ⟨d', h1⟩, h2⟩)
      · exact .inr (.inr (List.mem_cons_of_mem _ hb))
/-- a, b, .. = x, y, .. by slots; tu: the tuple is laid -/
abbrev tParL (is : List Nat) (ta : TA) : TS := fun E σ H => ta σ H fun vs H1 => vs.length = is.length ∧ E.nx (setL σ is vs) H1
abbrev tParT (is : List Nat) (ta : TA) : TS := fun E σ H => ta σ H fun vs H1 => vs.length = is.length ∧ ∀ p, H1 p = none → E.nx (setL σ is vs) (upd H1 p (.tup vs))
abbrev parF (is : List Nat) (f : SlF) : StF := fun env st => (f env st).bind fun (xs, s1) => (setSl env is xs).map fun env' => (.nx, env', s1)
theorem setSl_length : ∀ (is : List Nat) (xs : List Sl) (env : Mini.Env), setSl env is xs = some env' → xs.length = is.length := by
  intro is
  induction is with
  | nil => intro xs env h; cases xs <;> simp [setSl] at h ⊢
  | cons i is ih =>
    intro xs env h
    cases xs with
    | nil => simp [setSl] at h
    | cons x xs =>
      simp only [setSl] at h
      obtain ⟨e', _, h⟩ := Option.bind_eq_some_iff.mp h
      rw [List.length_cons, List.length_cons, ih xs e' h]
theorem own_ps {ps : List Addr} : AvL (OwA Av0 env σ no) ps = OwA Av0 env σ fun a => a ∈ ps := by
  funext a
  apply propext
  constructor
  · rintro ((h | h | h) | h)
    · exact .inl h
    · exact .inr (.inl h)
    · exact h.elim
    · exact .inr (.inr h)
  · rintro (h | h | h)
    · exact .inl (.inl h)
    · exact .inl (.inr (.inl h))
    · exact .inr h
theorem ps_parF {stm : Stmt} {is : List Nat} {f : SlF} (hps : PS X stm (tParL is (tFP X fad f))) : PS X stm (tFS X fad (parF is f)) := by
  refine hps.imp fun E σ H h => ?_
  obtain ⟨Av0, ρ0, H0, F, ρ, env, st, fl, env', st', v, e, q⟩ := h
  obtain ⟨⟨xs, s1⟩, e1, e⟩ := Option.bind_eq_some_iff.mp e
  obtain ⟨env1, e2, e⟩ := Option.map_eq_some_iff.mp e
  cases e
  refine ⟨_, ρ, env, st, xs, _, v.ev, e1, fun ρ1 H1 vs ps x1 hp r1 p1 => ?_⟩
  rw [own_ps] at r1 p1
  have v1 : SV X fad Av0 ρ0 H0 F (fun a => a ∈ ps) ρ1 H1 env σ _ := v.step x1 hp r1
  exact ⟨by rw [← p1.length, setSl_length is xs env e2], q ρ1 H1 _ (SV.setAll is v1 p1 e2)⟩
theorem ps_parT {stm : Stmt} {is : List Nat} {f : SlF} (hps : PS X stm (tParT is (tFP X fad f))) : PS X stm (tFS X fad (parF is f)) := by
  refine hps.imp fun E σ H h => ?_
  obtain ⟨Av0, ρ0, H0, F, ρ, env, st, fl, env', st', v, e, q⟩ := h
  obtain ⟨⟨xs, s1⟩, e1, e⟩ := Option.bind_eq_some_iff.mp e
  obtain ⟨env1, e2, e⟩ := Option.map_eq_some_iff.mp e
  cases e
  refine ⟨_, ρ, env, st, xs, _, v.ev, e1, fun ρ1 H1 vs ps x1 hp r1 p1 => ?_⟩
  refine ⟨by rw [← p1.length, setSl_length is xs env e2], fun a ha => ?_⟩
  have x2 : Ext ρ1 ρ1 H1 (upd H1 a (.tup vs)) := Ext.new ha
  have r2 := r1.new (o := .tup vs) ha
  have hps' : ∀ p ∈ ps, p ≠ a := fun p hp' z => by
    subst z
    have := Mt.some (r1.av p (.inr hp'))
    obtain ⟨o, ho⟩ := this
    rw [ho] at ha; cases ha
  have p2 := RepS.gr (Ext.gr (K := X.K) r1 x2) (fun p hp' => upd_ne (hps' p hp')) p1
  rw [own_ps] at r2 p2
  have x12 : Ext ρ ρ1 H (upd H1 a (.tup vs)) := x1.trans x2 fun b hb q => by
    by_cases z : b ∈ ρ
    · obtain ⟨kvs, ek⟩ := r1.dK (x1.sub b z)
      rw [ek] at q; cases q
    · cases o : H b with
      | none => exact hb o
      | some u => rw [x1.keep b u o z] at q; cases q
  have v1 : SV X fad Av0 ρ0 H0 F (fun a => a ∈ ps) ρ1 _ env σ _ := v.step x12 hp r2
  exact q ρ1 _ _ (SV.setAll is v1 p2 e2)
theorem tFP_mono {f : SlF} {P Q : List V → Hp → Prop} (i : ∀ vs H, P vs H → Q vs H) (h : tFP X fad f σ H P) : tFP X fad f σ H Q := by
  obtain ⟨Av, ρ, env, st, xs, st', ev, e, q⟩ := h
  exact ⟨Av, ρ, env, st, xs, st', ev, e, fun ρ' H' vs ps a b c d => i _ _ (q ρ' H' vs ps a b c d)⟩
theorem ps_par2A {i j : Nat} {x y : Str} {a b : Expr} {f : SlF} {px py pt pos : Pos} {kt k2 pt2} (hc : X.calm = true) (hN : X.N.Nodup) (hi : X.N[i]? = some x) (hj : X.N[j]? = some y) (hij : i ≠ j)
    (hx : X.env.scope.names.lookup x = some .local) (hy : X.env.scope.names.lookup y = some .local) (ha : PA X [a, b] (tFP X fad f))
    (hw : swappedStores [.Tuple [.Name x px, .Name y py] kt pt] (.Tuple [a, b] k2 pt2) X.env = pure (some [x, y])) :
    PS X (.Assign [.Tuple [.Name x px, .Name y py] kt pt] (.Tuple [a, b] k2 pt2) pos) (tFS X fad (parF [i, j] f)) := ps_parF (by
  refine (ps_par (pos := pos) hc hN hi hj hij hx hy ha hw (by rfl)).imp fun E σ H h => tFP_mono (fun vs H1 ⟨hl, q⟩ => ?_) h
  match vs, hl with
  | [v, w], _ => exact ⟨v, w, rfl, q⟩)
theorem ps_par3A {i j l : Nat} {x y z : Str} {a b c : Expr} {f : SlF} {px py pz pt pos : Pos} {kt k2 pt2} (hc : X.calm = true) (hN : X.N.Nodup) (hi : X.N[i]? = some x) (hj : X.N[j]? = some y) (hl : X.N[l]? = some z) (hij : i ≠ j) (hil : i ≠ l) (hjl : j ≠ l)
    (hx : X.env.scope.names.lookup x = some .local) (hy : X.env.scope.names.lookup y = some .local) (hz : X.env.scope.names.lookup z = some .local) (ha : PA X [a, b, c] (tFP X fad f))
    (hw : swappedStores [.Tuple [.Name x px, .Name y py, .Name z pz] kt pt] (.Tuple [a, b, c] k2 pt2) X.env = pure (some [x, y, z])) :
    PS X (.Assign [.Tuple [.Name x px, .Name y py, .Name z pz] kt pt] (.Tuple [a, b, c] k2 pt2) pos) (tFS X fad (parF [i, j, l] f)) := ps_parF (by
  refine (ps_par3 (pos := pos) hc hN hi hj hl hij hil hjl hx hy hz ha hw (by rfl)).imp fun E σ H h => tFP_mono (fun vs H1 ⟨hl, q⟩ => ?_) h
  match vs, hl with
  | [u, v, w], _ => exact ⟨u, v, w, rfl, q⟩)
/-! ### a tuple is laid -/
theorem pgs_names (hN : X.N.Nodup) : ∀ (l : List (Nat × Str × Pos)), (∀ q ∈ l, X.N[q.1]? = some q.2.1 ∧ Loc X.env.scope q.2.1 ∧ (X.fn q.2.1 = true ∨ X.env.scope.names.lookup q.2.1 = some .local)) →
    PGs X (l.map fun q => .Name q.2.1 q.2.2) (fun vs σ H Q => vs.length = l.length ∧ Q (setL σ (l.map (·.1)) vs) H)
  | [], _ => by
    refine pgs_nil.imp fun vs σ H Q h => ?_
    obtain ⟨h1, h2⟩ := h
    cases vs with
    | nil => exact ⟨rfl, h2⟩
    | cons v vs => simp at h1
  | q :: l, h => by
    obtain ⟨a, b, c⟩ := h q (List.mem_cons_self ..)
    refine (pgs_cons (pg_name (pos := q.2.2) hN a b c) (pgs_names hN l fun q' hq => h q' (List.mem_cons_of_mem _ hq)) (by rfl)).imp fun vs σ H Q h => ?_
    obtain ⟨h1, h2⟩ := h
    cases vs with
    | nil => simp at h1
    | cons v vs =>
      refine ⟨v, vs, rfl, ?_⟩
      exact ⟨by simpa using h1, h2⟩
theorem ps_parB {es : List Expr} {l : List (Nat × Str × Pos)} {f : SlF} {pt pos : Pos} {kt k2 pt2} (hc : X.calm = true) (hN : X.N.Nodup) (hl : l.length ≤ 15) (hq : ∀ q ∈ l, X.N[q.1]? = some q.2.1 ∧ Loc X.env.scope q.2.1 ∧ (X.fn q.2.1 = true ∨ X.env.scope.names.lookup q.2.1 = some .local))
    (ha : PA X es (tFP X fad f)) (hw : swappedStores [.Tuple (l.map fun q => .Name q.2.1 q.2.2) kt pt] (.Tuple es k2 pt2) X.env = pure none) :
    PS X (.Assign [.Tuple (l.map fun q => .Name q.2.1 q.2.2) kt pt] (.Tuple es k2 pt2) pos) (tFS X fad (parF (l.map (·.1)) f)) := ps_parT (by
  have hst : ∀ e ∈ (l.map fun q => Expr.Name q.2.1 q.2.2), ∀ a p, e ≠ .Starred a p := fun e he a p => by
    obtain ⟨q, _, rfl⟩ := List.mem_map.mp he
    exact fun z => nomatch z
  refine (ps_asg (pos := pos) (pe_tup ha) (pg_tup (k := kt) (pos := pt) (n := l.length) hc (pgs_names hN l hq) (by rw [(assignEach_plain hst).1, List.length_map]) (assignEach_plain hst).2) (by rfl) hw (by rfl)).imp fun E σ H h => tFP_mono (fun vs H1 ⟨h1, h2⟩ => ?_) h
  rw [List.length_map] at h1
  refine ⟨by rw [h1, sizeLine_eq]; omega, fun p hp => ?_⟩
  exact ⟨p, vs, rfl, .inl (.inl upd_same), h1, h1, h2 p hp⟩)
end
end Snd
end

section
set_option autoImplicit false
set_option Elab.async false
set_option linter.all false
set_option maxRecDepth 100000
set_option maxHeartbeats 1000000
/-! Snd22: the evaluator's trees against the program's. -/
namespace Snd
open PySem PySem.Spec PyProof.Rows L2
open Mini (D Sl T Fl)
/-- what names stand for -/
structure Mc where
  N : List Str
  fns : List (Str × Nat)
  csts : List (Str × Nat)
  bts : List Str
  /-- calls with keywords: def, how many are positional, the names, the order -/
  kws : List (Nat × Nat × List Str × List Nat)
def dbg (x : Str) : Bool := (x == ("__debug__" : Str)) || (x == ("__classdict__" : Str)) || (x == ("__name__" : Str))
def kindC (sc : Scope) (x : Str) (k : NameKind) : Bool := decide (sc.names.lookup x = some k)
def visC (sc : Scope) (x : Str) : Bool := kindC sc x .local || kindC sc x .cell || kindC sc x .free
def locC (sc : Scope) (x : Str) : Bool := kindC sc x .local || kindC sc x .cell
def varC (c : Mc) (sc : Scope) (i : Nat) (x : Str) : Bool := decide (c.N[i]? = some x) && visC sc x && !dbg x
def gloC (sc : Scope) (x : Str) : Bool := kindC sc x .globalImplicit && !dbg x
def btC (c : Mc) (sc : Scope) (x : Str) : Bool := gloC sc x && c.bts.contains x
def fnC (c : Mc) (sc : Scope) (n : Nat) (x : Str) : Bool := gloC sc x && c.fns.contains (x, n)
/-- may be stored: in a block a cell of its own, or a local name -/
def stoC (sc : Scope) (fb : Option Scope) (x : Str) : Bool := locC sc x && (fb.isNone || kindC sc x .local || (fb.elim true fun s => s.names.lookup x == some .cell))
def tgC (c : Mc) (sc : Scope) (fb : Option Scope) : T → Expr → Bool
  | .var i, .Name x _ => decide (c.N[i]? = some x) && stoC sc fb x
  | .tup ts, .Tuple es _ _ => tgsC c sc fb ts es
  | _, _ => false
where tgsC (c : Mc) (sc : Scope) (fb : Option Scope) : T → List Expr → Bool
  | .nil, [] => true
  | .cons t r, e :: es => tgC c sc fb t e && tgsC c sc fb r es
  | _, _ => false
def cstC : D → Const → Bool
  | .non, .none => true
  | .bl b, .bool b' => b == b'
  | .int i, .int j => decide (i = j)
  | .str s, .str x => decide (s = codes x)
  | _, _ => false
/-- built-in functions of plain calls -/
def bnOf : Mini.Bi → Option Str
  | .len => some "len"
  | .int => some "int"
  | .abs => some "abs"
  | .max2 => some "max"
  | .min2 => some "min"
  | .tuple => some "tuple"
  | .list => some "list"
  | .sum => some "sum"
  | .any => some "any"
  | .all => some "all"
  | .repr => some "repr"
  | .sorted => some "sorted"
  | _ => none
def ownC (N : List Str) (own : List Nat) : List (Str × Nat) := own.filterMap fun i => (N[i]?).map (·, i)
def blkC (N : List Str) (sc scope : Scope) (own : List (Str × Nat)) : Bool := decide (scope.kind = .function) && scope.names.all (fun y => decide (scope.names.lookup y.1 = some y.2)) && own.all (fun p => decide (N[p.2]? = some p.1)) &&
  scope.names.all (fun y => !decide (y.2 = .free) || decide (sc.names.lookup y.1 = some .cell) || decide (sc.names.lookup y.1 = some .free)) && scope.names.all fun y => !(decide (y.2 = .local) || decide (y.2 = .cell)) || (own.map (·.1)).contains y.1 || !N.contains y.1
def noSet : Expr → Bool
  | .Set _ _ _ => false
  | _ => true
def isPair : T → Bool
  | .enm _ => true
  | .zip _ _ => true
  | _ => false
def isTup : Expr → Bool
  | .Tuple _ _ _ => true
  | _ => false
def isRng : T → Bool
  | .rng1 _ => true
  | .rng2 _ _ => true
  | _ => false
def plainIx : Expr → Bool
  | .Slice _ _ _ _ => false
  | .Tuple _ _ _ => false
  | _ => true
def bopC : Mini.Bin → Operator → Bool := fun o p => decide (opOf o = p)
def isName : Expr → Bool
  | .Name _ _ => true
  | _ => false
def isVar : T → Bool
  | .var _ => true
  | _ => false
def isNonT : T → Bool
  | .cst .non => true
  | _ => false
/-- a bound of a slice -/
def bndC (t : T) (o : Option Expr) (r : Expr → Bool) : Bool := match o with
  | none => isNonT t
  | some e => !isNonT t && r e
/-- a call of a built-in function; m1: its first argument, m2: as what a loop walks, m3: the others -/
def biC (c : Mc) (sc : Scope) (o : Mini.Bi) (a r : T) (x : Str) (es : List Expr) (m1 m2 m3 : Bool) : Bool := match r, es, isN o with
  | .nil, [.Name y _], some n => decide (x = "isinstance") && btC c sc y && decide (bootBuiltins y = some (.type n)) && m1
  | _, _, _ => decide (bnOf o = some x) && (match isRng a, r, es with
    | true, .nil, [] => (o == .tuple || o == .list) && m2
    | _, _, _ => m1 && m3)
/-- keys of a display -/
def keysOf : T → List (List Nat)
  | .cons (.pair (.cst (.str k)) _) r => k :: keysOf r
  | _ => []
mutual
/-- it: what a loop walks -/
def mE (c : Mc) (sc : Scope) (it bw : Bool) : T → Expr → Bool
  | .cst d, .Constant k _ _ => cstC d k
  | .var i, .Name x _ => varC c sc i x
  | .glo n, .Name x _ => gloC sc x && c.csts.contains (x, n)
  | .fnv n, .Name x _ => fnC c sc n x
  | .bin o a b, .BinOp ea op eb _ => bopC o op && mE c sc false true a ea && mE c sc false true b eb
  | .neg a, .UnaryOp .USub ea _ => mE c sc false true a ea
  | .nt a, .UnaryOp .Not ea _ => mE c sc false true a ea
  | .and a b, .BoolOp .And (ea :: eb :: r) p => mE c sc false true a ea && (match r with
      | [] => mE c sc false bw b eb
      | _ => mE c sc false bw b (.BoolOp .And (eb :: r) p))
  | .or a b, .BoolOp .Or (ea :: eb :: r) p => mE c sc false true a ea && (match r with
      | [] => mE c sc false bw b eb
      | _ => mE c sc false bw b (.BoolOp .Or (eb :: r) p))
  | .ife k a b, .IfExp ek ea eb _ => mE c sc false true k ek && mE c sc false bw a ea && mE c sc false bw b eb
  | .cmp o a b, .Compare ea [op] [eb] _ => decide (cmOf o = op) && noSet eb && mE c sc false true a ea && mE c sc false true b eb
  | .chn o p a b k, .Compare ea [op, oq] [eb, ek] _ => decide (cmOf o = op) && decide (cmOf p = oq) && noSet ek && mE c sc false true a ea && mE c sc false true b eb && mE c sc false true k ek
  | .call f as, .Call (.Name x _) es [] _ => fnC c sc f x && mEs c sc false as es
  | .callK f as ks names perm, .Call (.Name x _) es kws _ => fnC c sc f x && mEs c sc false as es && mEs c sc false ks (kws.map (·.value)) && decide (kws.map (·.arg) = names.map fun n => some (⟨n.toArray⟩ : Str)) && c.kws.contains (f, es.length, names.map (fun n => (⟨n.toArray⟩ : Str)), perm)
  | .callV (.var i) as, .Call (.Name x _) (e :: es) [] _ => varC c sc i x && mEs c sc false as (e :: es)
  | .srtS a, .Call (.Name x _) [.Call (.Name y _) [e] [] _] [] _ => btC c sc x && btC c sc y && decide (x = "sorted") && decide (y = "set") && mE c sc false true a e
  | .srtL a, .Call (.Name x _) [e] [⟨some k1, .Name y _, _⟩, ⟨some k2, .Constant (.bool true) _ _, _⟩] _ => btC c sc x && btC c sc y && decide (x = "sorted") && decide (y = "len") && decide (k1 = "key") && decide (k2 = "reverse") && mE c sc false true a e
  | .bi o (.cons a r), .Call (.Name x _) (e :: es) [] _ => btC c sc x && biC c sc o a r x es (mE c sc false true a e) (mE c sc true true a e) (mEs c sc true r es)
  | .ix a i, .Subscript ea ei _ => plainIx ei && mE c sc false true a ea && mE c sc false true i ei
  | .slc a lo hi, .Subscript ea (.Slice l h none _) _ => mE c sc false true a ea && bndC lo l (fun e => mE c sc false true lo e) && bndC hi h (fun e => mE c sc false true hi e)
  | .tup as, .Tuple es _ _ => mEs c sc false as es
  | .lst as, .List es _ => mEs c sc false as es
  | .dsp .nil, .Dict [] [] _ => true
  | .dsp (.cons a r), .Dict ks vs _ => !ks.isEmpty && decide (ks.length ≤ 15) && decide (keysOf (.cons a r)).Nodup && mPs c sc (.cons a r) ks vs
  | .lc own e tg i cs, .ListComp ee [⟨et, ei, ifs, 0⟩] scope _ => noSet ei && (!isPair i || isTup et) && blkC c.N sc scope (ownC c.N own) && decide ((ownC c.N own).map (·.2) = own) && mE c sc true true i ei && tgC c (relS scope sc) (some scope) tg et && decide (ifs.length ≤ 1) && mEs c (relS scope sc) true cs ifs &&
      mE c (relS scope sc) false false e ee && (tgIx tg).all own.contains
  | .lc2 own vs1 e tg i cs tg1 i1 cs1, .ListComp ee [⟨et, ei, ifs, 0⟩, ⟨et1, ei1, ifs1, 0⟩] scope _ => noSet ei && noSet ei1 && (!isPair i || isTup et) && (!isPair i1 || isTup et1) && blkC c.N sc scope (ownC c.N own) && decide ((ownC c.N own).map (·.2) = own) && mE c sc true true i ei &&
      tgC c (relS scope sc) (some scope) tg et && decide (ifs.length ≤ 1) && mEs c (relS scope sc) true cs ifs && mE c (relS scope sc) true false i1 ei1 && tgC c (relS scope sc) (some scope) tg1 et1 && decide (ifs1.length ≤ 1) && mEs c (relS scope sc) true cs1 ifs1 &&
      mE c (relS scope sc) false false e ee && (tgIx tg).all own.contains && (tgIx tg1).all vs1.contains && vs1.all own.contains
  | .dc own k v tg i cs, .DictComp ek ev [⟨et, ei, ifs, 0⟩] scope _ => noSet ei && (!isPair i || isTup et) && blkC c.N sc scope (ownC c.N own) && decide ((ownC c.N own).map (·.2) = own) && mE c sc true true i ei && tgC c (relS scope sc) (some scope) tg et && decide (ifs.length ≤ 1) && mEs c (relS scope sc) true cs ifs &&
      mE c (relS scope sc) false false k ek && mE c (relS scope sc) false false v ev && (tgIx tg).all own.contains
  | .get2 o k d, .Call (.Attribute eo a ap) [ek, ed] [] cp => decide (a = "get") && isName eo && (ap.endLine == cp.line) && mE c sc false true o eo && mE c sc false true k ek && mE c sc false false d ed
  | .rng1 a, .Call (.Name x _) [ea] [] _ => it && btC c sc x && decide (x = "range") && mE c sc false true a ea
  | .rng2 a b, .Call (.Name x _) [ea, eb] [] _ => it && btC c sc x && decide (x = "range") && mE c sc false true a ea && mE c sc false true b eb
  | .enm a, .Call (.Name x _) [ea] [] _ => it && btC c sc x && decide (x = "enumerate") && mE c sc false bw a ea
  | .zip a b, .Call (.Name x _) [ea, eb] [] _ => it && btC c sc x && decide (x = "zip") && mE c sc false bw a ea && mE c sc false bw b eb
  | _, _ => false
def mEs (c : Mc) (sc : Scope) (bw : Bool) : T → List Expr → Bool
  | .nil, [] => true
  | .cons a r, e :: es => mE c sc false bw a e && mEs c sc bw r es
  | _, _ => false
def mPs (c : Mc) (sc : Scope) : T → List (Option Expr) → List Expr → Bool
  | .nil, [], [] => true
  | .cons (.pair (.cst (.str k)) v) r, some (.Constant (.str x) _ _) :: ks, e :: es => decide (k = codes x) && mE c sc false false v e && mPs c sc r ks es
  | _, _, _ => false
end
end Snd
end

section
set_option autoImplicit false
set_option Elab.async false
set_option linter.all false
set_option maxRecDepth 100000
set_option maxHeartbeats 1000000
/-! Snd23: statements against the program's. -/
namespace Snd
open PySem PySem.Spec PyProof.Rows L2
open Mini (D Sl T Fl)
def compS : Expr → Option Scope
  | .ListComp _ _ s _ => some s
  | .SetComp _ _ s _ => some s
  | .DictComp _ _ _ s _ => some s
  | _ => none
/-- whether the name is stored inside the block's end -/
def swB (sc : Scope) (x : Str) (p : Pos) (e : Expr) : Bool := match compS e with
  | some s => kindC sc x .local && p.line == e.pos.line && !(s.names.any fun (n, k) => n == x && (k == .local || k == .cell))
  | none => false
theorem swB_ok {sc : Scope} {env : Env} {x : Str} {p : Pos} {e : Expr} {line : Nat} (h : env.scope = sc) (hk : sc.kind = .function) : swapsWith e (some (.Name x p)) line env = pure (swB sc x p e) := by
  subst h
  have hb : env.blockKind = .function := by unfold Env.blockKind; rw [hk]; rfl
  have ek : ∀ k, (env.kindOf x == some k) = kindC env.scope x k := fun k => by
    unfold Env.kindOf kindC
    rw [Bool.beq_eq_decide_eq]
  cases e <;> first | rfl | (unfold swapsWith swB compS; simp only [hb, ek]; rfl)
def isStar : Expr → Bool
  | .Starred .. => true
  | _ => false
def nmAt (kd : Str → Bool) (line : Nat) : Expr → Option Str
  | .Name id pos => if kd id && pos.line == line then some id else none
  | _ => none
/-- the names that a, b = x, y stores from the right; none: unknown -/
def swS (sc : Scope) (ts vs : List Expr) : Option (Option (List Str)) :=
  if !(ts.length == 2 || ts.length == 3) || vs.length != ts.length then some none
  else if vs.any isStar then some none
  else if (ts.filterMap (nmAt (fun id => kindC sc id .local) ((ts.head?.map (·.pos.line)).getD 0))).length != ts.length || (ts.filterMap (nmAt (fun id => kindC sc id .local) ((ts.head?.map (·.pos.line)).getD 0))).eraseDups.length != (ts.filterMap (nmAt (fun id => kindC sc id .local) ((ts.head?.map (·.pos.line)).getD 0))).length then some none
  else if vs.all (foldedForSure 8) then some none
  else if vs.all (constantsAlone 8) then none
  else some (some (ts.filterMap (nmAt (fun id => kindC sc id .local) ((ts.head?.map (·.pos.line)).getD 0))))
theorem swEq {env : Env} {ts vs : List Expr} {k1 k2 : Nat} {p1 p2 : Pos} : swappedStores [.Tuple ts k1 p1] (.Tuple vs k2 p2) env =
    if !(ts.length == 2 || ts.length == 3) || vs.length != ts.length || env.blockKind != .function then pure none
    else if vs.any isStar then pure none
    else if (ts.filterMap (nmAt (fun id => env.kindOf id == some .local) ((ts.head?.map (·.pos.line)).getD 0))).length != ts.length || (ts.filterMap (nmAt (fun id => env.kindOf id == some .local) ((ts.head?.map (·.pos.line)).getD 0))).eraseDups.length != (ts.filterMap (nmAt (fun id => env.kindOf id == some .local) ((ts.head?.map (·.pos.line)).getD 0))).length then pure none
    else if vs.all (foldedForSure 8) then pure none
    else if vs.all (constantsAlone 8) then (do unsupported "assign.tuple-of-constant-expressions:order-of-the-stores"; pure (some (ts.filterMap (nmAt (fun id => env.kindOf id == some .local) ((ts.head?.map (·.pos.line)).getD 0)))))
    else pure (some (ts.filterMap (nmAt (fun id => env.kindOf id == some .local) ((ts.head?.map (·.pos.line)).getD 0)))) := rfl
theorem swS_ok {sc : Scope} {env : Env} {ts vs : List Expr} {r : Option (List Str)} {k1 k2 : Nat} {p1 p2 : Pos} (h : env.scope = sc) (hk : sc.kind = .function) (e : swS sc ts vs = some r) : swappedStores [.Tuple ts k1 p1] (.Tuple vs k2 p2) env = pure r := by
  subst h
  have hb : (env.blockKind != .function) = false := by unfold Env.blockKind; rw [hk]; rfl
  have ek : (fun id => env.kindOf id == some .local) = fun id => kindC env.scope id .local := by
    funext id
    unfold Env.kindOf kindC
    rw [Bool.beq_eq_decide_eq]
  rw [swEq, hb, ek, Bool.or_false]
  unfold swS at e
  split at e
  · rename_i h1; cases e; rw [if_pos h1]
  · rename_i h1
    rw [if_neg h1]
    split at e
    · rename_i h2; cases e; rw [if_pos h2]
    · rename_i h2
      rw [if_neg h2]
      split at e
      · rename_i h3; cases e; rw [if_pos h3]
      · rename_i h3
        rw [if_neg h3]
        split at e
        · rename_i h4; cases e; rw [if_pos h4]
        · rename_i h4
          rw [if_neg h4]
          split at e
          · cases e
          · rename_i h5; cases e; rw [if_neg h5]
/-- an expression that makes a list or dict -/
def isFr : T → Bool
  | .lst _ => true
  | .lc _ _ _ _ _ => true
  | .lc2 _ _ _ _ _ _ _ _ _ => true
  | .dc _ _ _ _ _ _ => true
  | .dsp .nil => true
  | .bin _ _ _ => true
  | .bi .list _ => true
  | .bi .sorted _ => true
  | .srtS _ => true
  | .srtL _ => true
  | _ => false
def nmsC (N : List Str) (sc : Scope) : T → List Expr → Bool
  | .nil, [] => true
  | .cons (.var i) r, .Name x _ :: es => decide (N[i]? = some x) && stoC sc none x && nmsC N sc r es
  | _, _ => false
def itsC (c : Mc) (sc : Scope) : T → List Expr → Bool
  | .nil, [] => true
  | .cons (.frs e) r, ee :: es => isFr e && mE c sc false false e ee && itsC c sc r es
  | .cons e r, ee :: es => mE c sc false false e ee && itsC c sc r es
  | _, _ => false
def augC : Mini.Bin → Operator → Bool
  | .add, .Add => true
  | .sub, .Sub => true
  | _, _ => false
def notTup : Expr → Bool
  | .Tuple _ _ _ => false
  | _ => true
def idxs : T → List Nat
  | .cons (.var i) r => i :: idxs r
  | _ => []
mutual
def mS (c : Mc) (sc : Scope) : T → Stmt → Bool
  | .nil, _ => true
  | .asg (.var i) e, .Assign [.Name x _] ee _ => decide (c.N[i]? = some x) && stoC sc none x && mE c sc false false e ee && (!(compS ee).isSome || isFr e)
  | .asg (.tup ts) e, .Assign [.Tuple es k p] ee _ => tgC c sc none (.tup ts) (.Tuple es k p) && notTup ee && mE c sc false false e ee && !(compS ee).isSome
  | .asgO i e, .Assign [.Name x _] ee _ => decide (c.N[i]? = some x) && stoC sc none x && isFr e && mE c sc false false e ee
  | .asgM m k e, .Assign [.Subscript em ek _] ee _ => mE c sc false false m em && mE c sc false true k ek && mE c sc false false e ee && !(compS ee).isSome
  | .setI i k e, .Assign [.Subscript (.Name x _) ek _] ee _ => varC c sc i x && mE c sc false false k ek && mE c sc false false e ee && !(compS ee).isSome
  | .aug i o e, .AugAssign (.Name x _) op ee _ => decide (c.N[i]? = some x) && stoC sc none x && augC o op && mE c sc false true e ee
  | .app i e, .Expr (.Call (.Attribute (.Name x _) a ap) [ee] [] cp) _ => decide (a = "append") && varC c sc i x && (ap.endLine == cp.line) && mE c sc false false e ee
  | .par tgs is, .Assign [.Tuple ets _ _] (.Tuple es _ _) _ => nmsC c.N sc tgs ets && itsC c sc is es && decide (ets.length ≤ 15) && decide (idxs tgs).Nodup && (match swS sc ets es with
      | none => false
      | some none => true
      | some (some _) => ets.length == 2 || ets.length == 3)
  | .ret (.var i), .Return (some (.Name x _)) _ => varC c sc i x
  | .ret (.cst .non), .Return none _ => true
  | .ret e, .Return (some ee) _ => !isVar e && mE c sc false false e ee
  | .exp e, .Expr ee _ => mE c sc false true e ee && !(compS ee).isSome
  | .ifs k a b, .If ek ea eb _ => mE c sc false true k ek && mSs c sc a ea && mSs c sc b eb
  | .for_ tg i b, .For et ei eb [] _ => noSet ei && (!isPair i || isTup et) && mE c sc true false i ei && tgC c sc none tg et && mSs c sc b eb
  | .whl k b, .While ek eb [] _ => mE c sc false true k ek && mSs c sc b eb
  | .brk, .Break _ => true
  | .cnt, .Continue _ => true
  | .pas, .Pass _ => true
  | _, _ => false
def mSs (c : Mc) (sc : Scope) : T → List Stmt → Bool
  | .nil, [] => true
  | .cons (.fz _) r, sts => mSs c sc r sts
  | .cons s r, st :: sts => mS c sc s st && mSs c sc r sts
  | _, _ => false
end
end Snd
end

section
set_option autoImplicit false
set_option Elab.async false
set_option linter.all false
set_option maxRecDepth 100000
set_option maxHeartbeats 1000000
/-! Snd24: the evaluator's equations; what the match of a context asks. -/
namespace Snd
open PySem PySem.Spec PyProof.Rows L2
open Mini (D Sl T Fl Cfg evE evEs evC evKs)
section
variable {C : Cfg} {bw : Bool}
theorem ev_cst (d : D) : evE C bw (.cst d) = fun _ st => some (d, st) := by funext env st; first | (simp only [evE]; done) | (simp only [evE]; rfl) | (rw [evE]; rfl)
theorem ev_varF (i : Nat) : evE C false (.var i) = fun env st => (Mini.slotV env[i]?).map (·, st) := by funext env st; simp [evE]
theorem ev_varT (i : Nat) : evE C true (.var i) = fun env st => (Mini.slotB env[i]?).map (·, st) := by funext env st; simp [evE]
theorem ev_glo (n : Nat) : evE C bw (.glo n) = fun _ st => (C.consts[n]?).map (·, st) := by funext env st; first | (simp only [evE]; done) | (simp only [evE]; rfl) | (rw [evE]; rfl)
theorem ev_fnv (n : Nat) : evE C bw (.fnv n) = fun _ st => some (.fn n, st) := by funext env st; first | (simp only [evE]; done) | (simp only [evE]; rfl) | (rw [evE]; rfl)
theorem ev_bin (o : Mini.Bin) (a b : T) : evE C bw (.bin o a b) = fun env st => (evE C true a env st).bind fun (x, s1) => (evE C true b env s1).bind fun (y, s2) => (Mini.binD o x y).map (·, s2) := by funext env st; first | (simp only [evE]; done) | (simp only [evE]; rfl) | (rw [evE]; rfl)
theorem ev_neg (a : T) : evE C bw (.neg a) = fun env st => (evE C true a env st).bind fun (x, s1) => match x with | .int i => some (.int (-i), s1) | _ => none := by funext env st; first | (simp only [evE]; done) | (simp only [evE]; rfl) | (rw [evE]; rfl)
theorem ev_nt (a : T) : evE C bw (.nt a) = fun env st => (evE C true a env st).bind fun (x, s1) => (Mini.tru x).map fun b => (.bl (!b), s1) := by funext env st; first | (simp only [evE]; done) | (simp only [evE]; rfl) | (rw [evE]; rfl)
theorem ev_and (a b : T) : evE C bw (.and a b) = andF (evE C true a) (evE C bw b) := by funext env st; first | (simp only [evE]; done) | (simp only [evE]; rfl) | (rw [evE]; rfl)
theorem ev_or (a b : T) : evE C bw (.or a b) = orF (evE C true a) (evE C bw b) := by funext env st; first | (simp only [evE]; done) | (simp only [evE]; rfl) | (rw [evE]; rfl)
theorem ev_ife (c a b : T) : evE C bw (.ife c a b) = ifF (evE C true c) (evE C bw a) (evE C bw b) := by funext env st; first | (simp only [evE]; done) | (simp only [evE]; rfl) | (rw [evE]; rfl)
theorem ev_cmp (o : Mini.Cm) (a b : T) : evE C bw (.cmp o a b) = fun env st => (evE C true a env st).bind fun (x, s1) => (evE C true b env s1).bind fun (y, s2) => (Mini.cmpD o x y).map fun c => (.bl c, s2) := by funext env st; first | (simp only [evE]; done) | (simp only [evE]; rfl) | (rw [evE]; rfl)
theorem ev_chn (o p : Mini.Cm) (a b c : T) : evE C bw (.chn o p a b c) = chF o p (evE C true a) (evE C true b) (evE C true c) := by funext env st; first | (simp only [evE]; done) | (simp only [evE]; rfl) | (rw [evE]; rfl)
theorem ev_call (f : Nat) (as : T) : evE C bw (.call f as) = fun env st => (evEs C false as env st).bind fun (xs, s1) => C.call f xs s1 := by funext env st; first | (simp only [evE]; done) | (simp only [evE]; rfl) | (rw [evE]; rfl)
theorem ev_callK (f : Nat) (as ks : T) (ns : List (List Nat)) (perm : List Nat) : evE C bw (.callK f as ks ns perm) = fun env st => (evEs C false as env st).bind fun (xs, s1) => (evEs C false ks env s1).bind fun (ys, s2) => (Mini.permD (xs ++ ys) perm).bind fun zs => C.call f zs s2 := by funext env st; first | (simp only [evE]; done) | (simp only [evE]; rfl) | (rw [evE]; rfl)
theorem ev_callV (f as : T) : evE C bw (.callV f as) = fun env st => (evE C true f env st).bind fun (g, s1) => (evEs C false as env s1).bind fun (xs, s2) => match g with | .fn n => C.call n xs s2 | _ => none := by funext env st; first | (simp only [evE]; done) | (simp only [evE]; rfl) | (rw [evE]; rfl)
theorem ev_bi (o : Mini.Bi) (as : T) : evE C bw (.bi o as) = fun env st => (evEs C true as env st).bind fun (xs, s1) => (Mini.biD o xs).map (·, s1) := by funext env st; first | (simp only [evE]; done) | (simp only [evE]; rfl) | (rw [evE]; rfl)
theorem ev_srtS (a : T) : evE C bw (.srtS a) = fun env st => (evE C true a env st).bind fun (v, s1) => (Mini.biD .sortedSet [v]).map (·, s1) := by funext env st; first | (simp only [evE]; done) | (simp only [evE]; rfl) | (rw [evE]; rfl)
theorem ev_srtL (a : T) : evE C bw (.srtL a) = fun env st => (evE C true a env st).bind fun (v, s1) => (Mini.biD .sortedLenRev [v]).map (·, s1) := by funext env st; first | (simp only [evE]; done) | (simp only [evE]; rfl) | (rw [evE]; rfl)
theorem ev_ix (a i : T) : evE C bw (.ix a i) = fun env st => (evE C true a env st).bind fun (x, s1) => (evE C true i env s1).bind fun (y, s2) => (Mini.ixD s2 x y).map (·, s2) := by funext env st; first | (simp only [evE]; done) | (simp only [evE]; rfl) | (rw [evE]; rfl)
abbrev bndF (t : T) (f : EvF) : EvF := fun env st => (f env st).bind fun (y, s) => (Mini.bndD t y).map (·, s)
theorem ev_slc (a lo hi : T) : evE C bw (.slc a lo hi) = fun env st => (evE C true a env st).bind fun (x, s1) => (bndF lo (evE C true lo) env s1).bind fun (y, s2) => (bndF hi (evE C true hi) env s2).bind fun (z, s3) => (Mini.slcD x y z).map (·, s3) := by funext env st; first | (simp only [evE]; done) | (simp only [evE]; rfl) | (rw [evE]; rfl)
theorem ev_tup (as : T) : evE C bw (.tup as) = fun env st => (evEs C false as env st).bind fun (xs, s1) => if xs.length ≤ Mini.LIM then some (.tup xs, s1) else none := by funext env st; first | (simp only [evE]; done) | (simp only [evE]; rfl) | (rw [evE]; rfl)
theorem ev_lst (as : T) : evE C bw (.lst as) = fun env st => (evEs C false as env st).bind fun (xs, s1) => if xs.length ≤ Mini.LIM then some (.lst xs, s1) else none := by funext env st; first | (simp only [evE]; done) | (simp only [evE]; rfl) | (rw [evE]; rfl)
theorem ev_lc (own : List Nat) (e tg it cs : T) : evE C bw (.lc own e tg it cs) = lcF own tg (evE C true it) (evC C cs) (evE C false e) := by funext env st; first | (simp only [evE]; done) | (simp only [evE]; rfl) | (rw [evE]; rfl)
theorem ev_lc2 (own vs1 : List Nat) (e tg it cs tg1 it1 cs1 : T) : evE C bw (.lc2 own vs1 e tg it cs tg1 it1 cs1) = lc2F own vs1 tg tg1 (evE C true it) (evE C false it1) (evC C cs) (evC C cs1) (evE C false e) := by funext env st; first | (simp only [evE]; done) | (simp only [evE]; rfl) | (rw [evE]; rfl)
theorem ev_dc (own : List Nat) (k v tg it cs : T) : evE C bw (.dc own k v tg it cs) = dcF own tg (evE C true it) (evC C cs) (evE C false k) (evE C false v) := by funext env st; first | (simp only [evE]; done) | (simp only [evE]; rfl) | (rw [evE]; rfl)
theorem ev_dsp0 : evE C bw (.dsp .nil) = fun _ st => some (.dct [], st) := by funext env st; first | (simp only [evE]; done) | (simp only [evE]; rfl) | (rw [evE]; rfl)
theorem ev_dsp (a r : T) : evE C bw (.dsp (.cons a r)) = fun env st => (evKs C (.cons a r) env st).map fun (kvs, s1) => (.ref s1.length, s1 ++ [kvs]) := by funext env st; first | (simp only [evE]; done) | (simp only [evE]; rfl) | (rw [evE]; rfl)
theorem ev_get2 (o k d : T) : evE C bw (.get2 o k d) = fun env st => (evE C true o env st).bind fun (x, s1) => (evE C true k env s1).bind fun (y, s2) => (evE C false d env s2).bind fun (z, s3) => match x with
      | .dct kvs => if Mini.isKeyTup y && kvs.all (fun p => Mini.isKeyTup p.1) then some ((Mini.look kvs y).getD z, s3) else none
      | _ => none := by funext env st; first | (simp only [evE]; done) | (simp only [evE]; rfl) | (rw [evE]; rfl)
theorem ev_rng1 (a : T) : evE C bw (.rng1 a) = rg1F (evE C true a) := by funext env st; first | (simp only [evE]; done) | (simp only [evE]; rfl) | (rw [evE]; rfl)
theorem ev_rng2 (a b : T) : evE C bw (.rng2 a b) = rg2F (evE C true a) (evE C true b) := by funext env st; first | (simp only [evE]; done) | (simp only [evE]; rfl) | (rw [evE]; rfl)
theorem ev_enm (a : T) : evE C bw (.enm a) = fun env st => (evE C bw a env st).bind fun (x, s1) => match x with
      | .tup xs | .lst xs | .wt xs => some (.lst (List.zipWith (fun (k : Nat) (x : D) => D.tup [.int k, x]) (List.range xs.length) xs), s1)
      | _ => none := by funext env st; first | (simp only [evE]; done) | (simp only [evE]; rfl) | (rw [evE]; rfl)
theorem ev_zip (a b : T) : evE C bw (.zip a b) = fun env st => (evE C bw a env st).bind fun (x, s1) => (evE C bw b env s1).bind fun (y, s2) => match x, y with
      | .tup xs, .tup ys => some (.lst (List.zipWith (fun x y => .tup [x, y]) xs ys), s2)
      | _, _ => none := by funext env st; first | (simp only [evE]; done) | (simp only [evE]; rfl) | (rw [evE]; rfl)
theorem es_nil : evEs C bw .nil = fun _ st => some ([], st) := by funext env st; simp only [evEs]
theorem es_cons (a r : T) : evEs C bw (.cons a r) = fun env st => (evE C bw a env st).bind fun (x, s1) => (evEs C bw r env s1).bind fun (xs, s2) => some (x :: xs, s2) := by funext env st; simp only [evEs]
theorem ec_nil : evC C .nil = fun _ st => some (true, st) := by funext env st; simp only [evC]
theorem ec_one (a : T) : evC C (.cons a .nil) = fun env st => (evE C true a env st).bind fun (x, s1) => (Mini.tru x).bind fun b => if b then (fun (_ : Mini.Env) st => some (true, st)) env s1 else some (false, s1) := by
  funext env st
  simp only [evC]
end
/-- X stands where names are as c and sc tell -/
structure At (X : Cx) (fad : Nat → Addr) (P : Mini.Prog) (d : Nat) (c : Mc) (sc : Scope) : Prop where
  N : X.N = c.N
  nd : X.N.Nodup
  sc : X.env.scope = sc
  calm : X.calm = true
  gd : X.A.guards = some []
  room : Room d X.A
  cal : ∀ n F, P.fns[n]? = some F → ∃ fd ps, CalG X fad P d n fd ps ∧ ∀ e ∈ c.kws, e.1 = n → KwB fd ps e.2.1 e.2.2.1 e.2.2.2
  fnm : ∀ q ∈ c.fns, X.mg q.1 = some (.ref (fad q.2)) ∧ ∃ F, P.fns[q.2]? = some F
  cst : ∀ q ∈ c.csts, ∃ v u d, P.consts[q.2]? = some d ∧ Mini.ownable d = false ∧ X.mg q.1 = some u ∧ RelV v u ∧ ∀ H Bad ρ, Rep X.K fad H Bad ρ d v
  bt : ∀ x ∈ c.bts, X.mg x = none
section
variable {X : Cx} {fad : Nat → Addr} {P : Mini.Prog} {d : Nat} {c : Mc} {sc : Scope}
theorem At.blk (A : At X fad P d c sc) (s : Shared) (H : Hp) (scope : Scope) (cl : List (Str × Addr)) (C : Addr) (fp : List Addr) : At (X.blk s H scope (compEnvC scope cl C X.env) fp) fad P d c (relS scope sc) :=
  ⟨A.N, A.nd, by rw [← A.sc]; rfl, A.calm, A.gd, A.room, fun n F h => let ⟨fd, ps, C, k⟩ := A.cal n F h; ⟨fd, ps, ⟨C.fn, C.kp, C.bind⟩, k⟩, A.fnm, A.cst, A.bt⟩
theorem At.un (A : At X fad P d c sc) : X.A.units + 64 < cLine := A.room.units
theorem At.vis (A : At X fad P d c sc) {x : Str} (h : visC sc x = true) : Vis X.env.scope x := by
  rw [A.sc]
  unfold visC kindC at h
  simp only [Bool.or_eq_true, decide_eq_true_eq, or_assoc] at h
  exact h
theorem At.loc (A : At X fad P d c sc) {x : Str} (h : locC sc x = true) : Loc X.env.scope x := by
  rw [A.sc]
  unfold locC kindC at h
  simp only [Bool.or_eq_true, decide_eq_true_eq] at h
  exact h
theorem dbg_no {x : Str} (h : dbg x = false) : (x == ("__debug__" : Str)) = false ∧ (x == ("__classdict__" : Str)) = false ∧ x ≠ "__name__" := by
  unfold dbg at h
  simp only [Bool.or_eq_false_iff] at h
  exact ⟨h.1.1, h.1.2, by simpa using h.2⟩
theorem At.gl (A : At X fad P d c sc) {x : Str} (h : gloC sc x = true) : Gl X x ∧ (x == ("__debug__" : Str)) = false ∧ x ≠ "__name__" := by
  unfold gloC kindC at h
  simp only [Bool.and_eq_true, Bool.not_eq_true', decide_eq_true_eq] at h
  obtain ⟨h1, h2⟩ := h
  refine ⟨?_, (dbg_no h2).1, (dbg_no h2).2.2⟩
  unfold Gl Env.kindOf
  rw [A.sc]; exact h1
theorem At.var (A : At X fad P d c sc) {i : Nat} {x : Str} (h : varC c sc i x = true) : X.N[i]? = some x ∧ Vis X.env.scope x ∧ (x == ("__debug__" : Str)) = false ∧ (x == ("__classdict__" : Str)) = false := by
  unfold varC at h
  simp only [Bool.and_eq_true, Bool.not_eq_true', decide_eq_true_eq] at h
  obtain ⟨⟨h1, h2⟩, h3⟩ := h
  exact ⟨by rw [A.N]; exact h1, A.vis h2, (dbg_no h3).1, (dbg_no h3).2.1⟩
theorem At.btn (A : At X fad P d c sc) {x : Str} (h : btC c sc x = true) : Gl X x ∧ X.mg x = none ∧ x ≠ "__name__" ∧ (x == ("__debug__" : Str)) = false := by
  unfold btC at h
  simp only [Bool.and_eq_true] at h
  obtain ⟨h1, h2⟩ := h
  obtain ⟨a, b, e⟩ := A.gl h1
  exact ⟨a, A.bt x (by simpa using h2), e, b⟩
theorem At.fn (A : At X fad P d c sc) {n : Nat} {x : Str} (h : fnC c sc n x = true) : Gl X x ∧ X.mg x = some (.ref (fad n)) ∧ (x == ("__debug__" : Str)) = false ∧ ∃ F, P.fns[n]? = some F := by
  unfold fnC at h
  simp only [Bool.and_eq_true] at h
  obtain ⟨h1, h2⟩ := h
  obtain ⟨a, b, e⟩ := A.gl h1
  have := A.fnm (x, n) (by simpa using h2)
  exact ⟨a, this.1, b, this.2⟩
theorem pe_gloF {x : Str} {pos : Pos} {v : V} {u : Value} (hg : Gl X x) (hm : X.mg x = some u) (hd : (x == ("__debug__" : Str)) = false) (r : RelV v u) : PE X (.Name x pos) (tC v) :=
  ⟨fun _ _ _ H _ I h => ld_glob I hg hm ⟨v, H, I, r, h⟩ hd⟩
theorem pe_bool1 {op : BoolOp} {e : Expr} {pos : Pos} {t : TE} (h : PE X e t) : PE X (.BoolOp op [e] pos) t := ⟨fun pins s σ H Q I hw => h.run pins s σ H Q I hw⟩
theorem pt_ifE {k a b : Expr} {pos : Pos} {tk ta tb : TT} (hk : PT X k tk) (ha : PT X a ta) (hb : PT X b tb) : PT X (.IfExp k a b pos) (fun σ H Q => tk σ H fun c H1 => if c = true then ta σ H1 Q else tb σ H1 Q) := by
  refine ⟨fun pins s σ H Q I h => ?_⟩
  show wpAny _ _ (do if ← isTrue k X.env (eval k X.env) then isTrue a X.env (eval a X.env) else isTrue b X.env (eval b X.env)) _ _ s
  refine wpAny_bind (thn (hk.run pins s σ H _ I h) fun c s1 ⟨H1, I1, q⟩ => ?_)
  cases c with
  | true => exact ha.run pins s1 σ H1 _ I1 (by simpa using q)
  | false => exact hb.run pins s1 σ H1 _ I1 (by simpa using q)
theorem pt_ifF {k a b : Expr} {pos : Pos} {fk fa fb : EvF} (hk : PT X k (tFT X.K fad fk)) (ha : PT X a (tFT X.K fad fa)) (hb : PT X b (tFT X.K fad fb)) : PT X (.IfExp k a b pos) (tFT X.K fad (ifF fk fa fb)) := by
  refine (pt_ifE hk ha hb).imp fun σ H Q h => ?_
  obtain ⟨Av, ρ, env, st, d, st', ev, e, q⟩ := h
  obtain ⟨⟨x, s1⟩, e1, e⟩ := Option.bind_eq_some_iff.mp e
  obtain ⟨c, e2, e⟩ := Option.bind_eq_some_iff.mp e
  rw [tru_bl e2] at e1
  refine ⟨Av, ρ, env, st, c, s1, ev, e1, fun ρ1 H1 x1 r1 => ?_⟩
  cases c with
  | true => exact iteT (tFT_after ev x1 r1 (by simpa using e) q)
  | false => exact iteF (tFT_after ev x1 r1 (by simpa using e) q)
end
end Snd
end

section
set_option autoImplicit false
set_option Elab.async false
set_option linter.all false
set_option maxRecDepth 100000
set_option maxHeartbeats 4000000
/-! Snd25: what matches runs as the evaluator tells: expressions. -/
namespace Snd
open PySem PySem.Spec PyProof.Rows L2
open Mini (D Sl T Fl Cfg evE evEs evC evKs)
/-- rules with a text of their own -/
structure SpOk (X : Cx) (fad : Nat → Addr) : Prop where
  repr : CallR X (.builtin "repr") (rBi X.K fad .repr)
  set : ∀ {p q p1 p2 : Pos} {e : Expr} {f : EvF}, Gl X "sorted" → X.mg "sorted" = none → Gl X "set" → X.mg "set" = none → PE X e (tF X.K fad .bor f) → (∀ a p, e ≠ .Starred a p) →
    PE X (.Call (.Name "sorted" p) [.Call (.Name "set" q) [e] [] p1] [] p2) (tFr X fad fun env st => (f env st).bind fun (v, s1) => (Mini.biD .sortedSet [v]).map (·, s1))
  len : ∀ {p q p1 p2 p3 p4 : Pos} {j : Nat} {e : Expr} {f : EvF}, Gl X "sorted" → X.mg "sorted" = none → Gl X "len" → X.mg "len" = none → PE X e (tF X.K fad .bor f) → (∀ a p, e ≠ .Starred a p) →
    PE X (.Call (.Name "sorted" p) [e] [⟨some "key", .Name "len" q, p1⟩, ⟨some "reverse", .Constant (.bool true) j p3, p4⟩] p2) (tFr X fad fun env st => (f env st).bind fun (v, s1) => (Mini.biD .sortedLenRev [v]).map (·, s1))
def isIt : T → Bool
  | .rng1 _ => true
  | .rng2 _ _ => true
  | .enm _ => true
  | .zip _ _ => true
  | _ => false
section
variable {fad : Nat → Addr} {P : Mini.Prog} {d : Nat}
/-- the pairs of a display -/
def ksOf (C : Cfg) : T → List (Str × EvF)
  | .cons (.pair (.cst (.str k)) v) r => (⟨k.toArray⟩, evE C false v) :: ksOf C r
  | _ => []
structure Good (fad : Nat → Addr) (P : Mini.Prog) (d : Nat) (t : T) : Prop where
  ge : ∀ {X : Cx} {c : Mc} {sc : Scope} {it bw : Bool} {ex : Expr}, At X fad P d c sc → SpOk X fad → isIt t = false → mE c sc it bw t ex = true → PE X ex (tF X.K fad (kdOf bw) (evE ⟨P.consts, Mini.callP P d⟩ bw t))
  gi : ∀ {X : Cx} {c : Mc} {sc : Scope} {bw : Bool} {tg ex : Expr}, At X fad P d c sc → SpOk X fad → isIt t = true → mE c sc true bw t ex = true → (isPair t = true → isTup tg = true) → PI X tg ex (tFI X.K fad bw (evE ⟨P.consts, Mini.callP P d⟩ bw t))
  gr : ∀ {X : Cx} {c : Mc} {sc : Scope} {bw : Bool} {ex : Expr}, At X fad P d c sc → SpOk X fad → isRng t = true → mE c sc true bw t ex = true → RgF X fad ex (evE ⟨P.consts, Mini.callP P d⟩ bw t)
  gf : ∀ {X : Cx} {c : Mc} {sc : Scope} {it bw : Bool} {ex : Expr}, At X fad P d c sc → SpOk X fad → isFr t = true → mE c sc it bw t ex = true → PE X ex (tFr X fad (evE ⟨P.consts, Mini.callP P d⟩ bw t))
  gw : ∀ {X : Cx} {c : Mc} {sc : Scope} {it : Bool} {op : BoolOp} {es : List Expr} {p : Pos}, At X fad P d c sc → SpOk X fad → isIt t = false → mE c sc it true t (.BoolOp op es p) = true → PW X (.BoolOp op es p) (tFT X.K fad (evE ⟨P.consts, Mini.callP P d⟩ true t))
  gt : ∀ {X : Cx} {c : Mc} {sc : Scope} {it : Bool} {ex : Expr}, At X fad P d c sc → SpOk X fad → isIt t = false → mE c sc it true t ex = true → PT X ex (tFT X.K fad (evE ⟨P.consts, Mini.callP P d⟩ true t))
  gs : ∀ {X : Cx} {c : Mc} {sc : Scope} {bw : Bool} {exs : List Expr}, At X fad P d c sc → SpOk X fad → mEs c sc bw t exs = true → PA X exs (tFL X.K fad bw (evEs ⟨P.consts, Mini.callP P d⟩ bw t))
  gk : ∀ {X : Cx} {c : Mc} {sc : Scope} {kws : List Keyword}, At X fad P d c sc → SpOk X fad → mEs c sc false t (kws.map (·.value)) = true → PK X kws (tFL X.K fad false (evEs ⟨P.consts, Mini.callP P d⟩ false t))
  gp : ∀ {X : Cx} {c : Mc} {sc : Scope} {pos : Pos} {ks : List (Option Expr)} {vs : List Expr}, At X fad P d c sc → SpOk X fad → mPs c sc t ks vs = true → PPs X pos ks vs (ksT X.K fad (ksOf ⟨P.consts, Mini.callP P d⟩ t)) ∧ evKs ⟨P.consts, Mini.callP P d⟩ t = ksF (ksOf ⟨P.consts, Mini.callP P d⟩ t) ∧ ks.all (·.isSome) = true ∧ ks.length = vs.length ∧ ks.length = (ksOf ⟨P.consts, Mini.callP P d⟩ t).length
/-- e is no starred item -/
theorem mE_star {c : Mc} {sc : Scope} {it bw : Bool} {t : T} {e : Expr} (h : mE c sc it bw t e = true) : ∀ a p, e ≠ .Starred a p := fun a p z => by
  subst z
  cases t with
  | bi o as => cases as <;> exact nomatch (show false = true from h)
  | callV f as => cases f <;> exact nomatch (show false = true from h)
  | dsp as => cases as <;> exact nomatch (show false = true from h)
  | _ => exact nomatch (show false = true from h)
theorem mEs_star {c : Mc} {sc : Scope} {bw : Bool} : ∀ {t : T} {es : List Expr}, mEs c sc bw t es = true → ∀ e ∈ es, ∀ a p, e ≠ .Starred a p
  | _, [], _, e, he, _, _ => nomatch he
  | t, e :: es, h, e', he, a, p => by
    cases t with
    | cons t1 r =>
      have h : (mE c sc false bw t1 e && mEs c sc bw r es) = true := h
      rw [Bool.and_eq_true] at h
      rcases List.mem_cons.mp he with rfl | he
      · exact mE_star h.1 a p
      · exact mEs_star h.2 e' he a p
    | _ => exact nomatch (show false = true from h)
theorem mEs_len {c : Mc} {sc : Scope} {C : Cfg} {bw : Bool} : ∀ {t : T} {es : List Expr}, mEs c sc bw t es = true → ∀ {bw' : Bool} {env : Mini.Env} {st st' : Mini.St} {xs : List D}, evEs C bw' t env st = some (xs, st') → xs.length = es.length
  | .nil, [], _, bw', env, st, st', xs, e => by
    simp only [evEs] at e
    cases e; rfl
  | .cons a r, e0 :: es, h, bw', env, st, st', xs, e => by
    have h : (mE c sc false bw a e0 && mEs c sc bw r es) = true := h
    rw [Bool.and_eq_true] at h
    simp only [evEs] at e
    obtain ⟨⟨x, s1⟩, e1, e⟩ := Option.bind_eq_some_iff.mp e
    obtain ⟨⟨ys, s2⟩, e2, e⟩ := Option.bind_eq_some_iff.mp e
    cases e
    rw [List.length_cons, List.length_cons, mEs_len h.2 e2]
  | .nil, _ :: _, h, _, _, _, _, _, _ => nomatch (show false = true from h)
  | .cons _ _, [], h, _, _, _, _, _, _ => nomatch (show false = true from h)
/-- nothing matches it -/
theorem Good.none {t : T} (h1 : ∀ c sc it bw e, mE c sc it bw t e = false) (h2 : ∀ c sc bw es, mEs c sc bw t es = false) (h3 : ∀ c sc ks vs, mPs c sc t ks vs = false) : Good fad P d t :=
  ⟨fun _ _ _ h => (by rw [h1] at h; cases h), fun _ _ _ h => (by rw [h1] at h; cases h), fun _ _ _ h => (by rw [h1] at h; cases h), fun _ _ _ h => (by rw [h1] at h; cases h), fun _ _ _ h => (by rw [h1] at h; cases h), fun _ _ _ h => (by rw [h1] at h; cases h), fun _ _ h => (by rw [h2] at h; cases h), fun _ _ h => (by rw [h2] at h; cases h), fun _ _ h => (by rw [h3] at h; cases h)⟩
/-- an expression that is no bool operation, no test of its own, nothing that only loops walk -/
theorem Good.plain {t : T} (hi : isIt t = false) (hr : isRng t = false) (h2 : ∀ c sc bw es, mEs c sc bw t es = false) (h3 : ∀ c sc ks vs, mPs c sc t ks vs = false)
    (hs : ∀ {c : Mc} {sc : Scope} {it bw : Bool} {ex : Expr}, mE c sc it bw t ex = true → (∀ op es p, ex ≠ .BoolOp op es p) ∧ ∀ env whole, isTrue ex env whole = (do let v ← whole; standAt ex.pos; holding [v] (truthy v)))
    (he : ∀ {X : Cx} {c : Mc} {sc : Scope} {it bw : Bool} {ex : Expr}, At X fad P d c sc → SpOk X fad → mE c sc it bw t ex = true → PE X ex (tF X.K fad (kdOf bw) (evE ⟨P.consts, Mini.callP P d⟩ bw t)))
    (hf : ∀ {X : Cx} {c : Mc} {sc : Scope} {it bw : Bool} {ex : Expr}, At X fad P d c sc → SpOk X fad → isFr t = true → mE c sc it bw t ex = true → PE X ex (tFr X fad (evE ⟨P.consts, Mini.callP P d⟩ bw t))) : Good fad P d t :=
  ⟨fun A S _ h => he A S h, fun _ _ h => (by rw [hi] at h; cases h), fun _ _ h => (by rw [hr] at h; cases h), fun A S f h => hf A S f h, fun A S _ h => absurd rfl ((hs h).1 _ _ _), fun {X c sc it ex} A S _ h => pt_valF (he A S h) ((hs h).2 X.env), fun _ _ h => (by rw [h2] at h; cases h), fun _ _ h => (by rw [h2] at h; cases h), fun _ _ h => (by rw [h3] at h; cases h)⟩
end
end Snd
end

section
set_option autoImplicit false
set_option Elab.async false
set_option linter.all false
set_option maxRecDepth 100000
set_option maxHeartbeats 4000000
/-! Snd26: expressions, constructor by constructor. -/
namespace Snd
open PySem PySem.Spec PyProof.Rows L2
open Mini (D Sl T Fl Cfg evE evEs evC evKs)
section
variable {fad : Nat → Addr} {P : Mini.Prog} {d : Nat}
theorem kd_bv {bw : Bool} : kdOf bw = .bor ∨ kdOf bw = .val := by cases bw <;> simp [kdOf]
theorem noSetIt {X : Cx} {e : Expr} (h : noSet e = true) : ∀ x, foldedSetIterable e X.env x = pure x := by
  intro x
  cases e <;> first | rfl | (exact nomatch (show false = true from h))
theorem noSetIt' {e : Expr} (h : noSet e = true) : ∀ (env : Env) x, foldedSetIterable e env x = pure x := by
  intro env x
  cases e <;> first | rfl | (exact nomatch (show false = true from h))
theorem noMarks {o : CmpOp} {e : Expr} (h : noSet e = true) : behindInMarks o e = false := by
  cases e <;> first | rfl | (exact nomatch (show false = true from h))
theorem blk_ok {N : List Str} {sc scope : Scope} {own : List (Str × Nat)} (h : blkC N sc scope own = true) : BlkOk N sc scope own := by
  unfold blkC at h
  simp only [Bool.and_eq_true, decide_eq_true_eq, List.all_eq_true, Bool.or_eq_true, Bool.not_eq_true', decide_eq_false_iff_not] at h
  obtain ⟨⟨⟨⟨h1, h2⟩, h3⟩, h4⟩, h5⟩ := h
  refine ⟨h1, h2, h3, fun y hy e => ?_, fun y hy e => ?_⟩
  · rcases h4 y hy with (q | q) | q
    · exact absurd e q
    · exact .inl q
    · exact .inr q
  · rcases h5 y hy with (q | q) | q
    · rw [Bool.or_eq_false_iff] at q
      rcases e with e | e
      · rw [e] at q; simp at q
      · rw [e] at q; simp at q
    · exact .inl (by simpa using q)
    · exact .inr (by simpa using q)
theorem sto_ok {X : Cx} {c : Mc} {sc : Scope} {fb : Option Scope} (A : At X fad P d c sc) (hf : ∀ x, (∀ s, fb = some s → s.names.lookup x = some .cell) → X.fn x = true) {x : Str} (h : stoC sc fb x = true) : Loc X.env.scope x ∧ (X.fn x = true ∨ X.env.scope.names.lookup x = some .local) := by
  unfold stoC at h
  rw [Bool.and_eq_true] at h
  refine ⟨A.loc h.1, ?_⟩
  have h2 := h.2
  simp only [Bool.or_eq_true] at h2
  rcases h2 with (q | q) | q
  · exact .inl (hf x fun s e => by rw [e] at q; cases q)
  · right
    rw [A.sc]
    simpa [kindC] using q
  · left
    refine hf x fun s e => ?_
    subst e
    simpa using q
theorem tg_ok {X : Cx} {c : Mc} {sc : Scope} {fb : Option Scope} (A : At X fad P d c sc) (hf : ∀ x, (∀ s, fb = some s → s.names.lookup x = some .cell) → X.fn x = true) (t : T) : (∀ e, tgC c sc fb t e = true → PG X e (tFG X fad t) ∧ ∀ a p, e ≠ .Starred a p) ∧ (∀ es, tgC.tgsC c sc fb t es = true → PGs X es (tFGs X fad t) ∧ (∀ e ∈ es, ∀ a p, e ≠ .Starred a p) ∧ es.length = tLen t) := by
  induction t with
  | var i =>
    refine ⟨fun e h => ?_, fun es h => by cases es <;> exact nomatch (show false = true from h)⟩
    cases e <;> try (exact nomatch (show false = true from h))
    rename_i x p
    have h : (decide (c.N[i]? = some x) && stoC sc fb x) = true := h
    rw [Bool.and_eq_true, decide_eq_true_eq] at h
    obtain ⟨l, f⟩ := sto_ok A hf h.2
    exact ⟨pg_varF A.nd (by rw [A.N]; exact h.1) l f, fun a p z => nomatch z⟩
  | tup ts ih =>
    refine ⟨fun e h => ?_, fun es h => by cases es <;> exact nomatch (show false = true from h)⟩
    cases e <;> try (exact nomatch (show false = true from h))
    rename_i es k p
    obtain ⟨h1, h2, h3⟩ := ih.2 es h
    exact ⟨pg_tupF A.calm h1 h2 h3, fun a p z => nomatch z⟩
  | nil =>
    refine ⟨fun e h => (by cases e <;> exact nomatch (show false = true from h)), fun es h => ?_⟩
    cases es with
    | nil => exact ⟨pgs_nilF, (fun e he => nomatch he), rfl⟩
    | cons e es => exact nomatch (show false = true from h)
  | cons a r ih1 ih2 =>
    refine ⟨fun e h => (by cases e <;> exact nomatch (show false = true from h)), fun es h => ?_⟩
    cases es with
    | nil => exact nomatch (show false = true from h)
    | cons e es =>
      have h : (tgC c sc fb a e && tgC.tgsC c sc fb r es) = true := h
      rw [Bool.and_eq_true] at h
      obtain ⟨h1, h2⟩ := ih1.1 e h.1
      obtain ⟨h3, h4, h5⟩ := ih2.2 es h.2
      refine ⟨pgs_consF h1 h3 h2, fun x hx => ?_, by rw [List.length_cons, h5]; rfl⟩
      rcases List.mem_cons.mp hx with rfl | hx
      · exact h2
      · exact h4 x hx
  | _ => exact ⟨fun e h => (by cases e <;> exact nomatch (show false = true from h)), fun es h => (by cases es <;> exact nomatch (show false = true from h))⟩
/-- what a loop walks -/
theorem Good.it {t : T} (g : Good fad P d t) {X : Cx} {c : Mc} {sc : Scope} {bw : Bool} {tg ex : Expr} (A : At X fad P d c sc) (S : SpOk X fad) (h : mE c sc true bw t ex = true) (hp : isPair t = true → isTup tg = true) : PI X tg ex (tFI X.K fad bw (evE ⟨P.consts, Mini.callP P d⟩ bw t)) := by
  cases q : isIt t with
  | true => exact g.gi A S q h hp
  | false => exact pi_seqF (g.ge A S q h)
/-- a plain built-in function -/
theorem bn_call {X : Cx} {c : Mc} {sc : Scope} (A : At X fad P d c sc) (S : SpOk X fad) {o : Mini.Bi} {x : Str} (h : bnOf o = some x) : (∃ id, bootBuiltins x = some (.builtin id) ∧ CallR X (.builtin id) (rBi X.K fad o)) ∨ ∃ id, bootBuiltins x = some (.type id) ∧ CallR X (.type id) (rBi X.K fad o) := by
  cases o <;> simp only [bnOf, Option.some.injEq] at h <;> first | (cases h; done) | subst h
  · exact .inl ⟨"len", by rfl, call_lenV⟩
  · exact .inr ⟨"int", by rfl, call_intV⟩
  · exact .inl ⟨"abs", by rfl, call_absV⟩
  · exact .inl ⟨"max", by rfl, call_max2V A.calm⟩
  · exact .inl ⟨"min", by rfl, call_min2V A.calm⟩
  · exact .inr ⟨"tuple", by rfl, call_tupleV⟩
  · exact .inr ⟨"list", by rfl, call_listV⟩
  · exact .inl ⟨"sum", by rfl, call_sumV A.calm⟩
  · exact .inl ⟨"any", by rfl, call_anyV A.calm⟩
  · exact .inl ⟨"all", by rfl, call_allV A.calm⟩
  · exact .inl ⟨"repr", by rfl, S.repr⟩
  · exact .inl ⟨"sorted", by rfl, call_sortedV A.calm A.un⟩
theorem bi_pe {X : Cx} {c : Mc} {sc : Scope} (A : At X fad P d c sc) (S : SpOk X fad) {o : Mini.Bi} {x : Str} {p pos : Pos} {e : Expr} {es : List Expr} {t : TA} (h : bnOf o = some x) (hb : btC c sc x = true) (ha : PA X (e :: es) t) (hs : ∀ e' ∈ e :: es, ∀ a p, e' ≠ .Starred a p) :
    PE X (.Call (.Name x p) (e :: es) [] pos) (tCB (rBi X.K fad o) t) := by
  obtain ⟨g, m, n, dd⟩ := A.btn hb
  have st := noStar (env := X.env) (es := es) (hs e (List.mem_cons_self ..))
  have pl : (backTo pos (starEach es X.env)).any (·.1) = false := noneStarred fun e' he' => hs e' (List.mem_cons_of_mem _ he')
  rcases bn_call A S h with ⟨id, hv, hc⟩ | ⟨id, hv, hc⟩
  · exact pe_callB hc g m hv ha n dd st pl
  · exact pe_callTy hc g m hv ha n dd st pl
end
end Snd
end

section
set_option autoImplicit false
set_option Elab.async false
set_option linter.all false
set_option maxRecDepth 100000
set_option maxHeartbeats 4000000
/-! Snd27: the goodness of each tree. -/
namespace Snd
open PySem PySem.Spec PyProof.Rows L2
open Mini (D Sl T Fl Cfg evE evEs evC evKs)
section
variable {fad : Nat → Addr} {P : Mini.Prog} {d : Nat}
theorem notIt {t : T} {c : Mc} {sc : Scope} {bw : Bool} {e : Expr} (h : mE c sc false bw t e = true) : isIt t = false := by
  cases t with
  | rng1 a =>
    match e, h with
    | .Call (.Name x _) [ea] [] _, h => exact nomatch (show false = true from h)
  | rng2 a b =>
    match e, h with
    | .Call (.Name x _) [ea, eb] [] _, h => exact nomatch (show false = true from h)
  | enm a =>
    match e, h with
    | .Call (.Name x _) [ea] [] _, h => exact nomatch (show false = true from h)
  | zip a b =>
    match e, h with
    | .Call (.Name x _) [ea, eb] [] _, h => exact nomatch (show false = true from h)
  | _ => rfl
theorem cst_pe {X : Cx} {kd : Kd} {j : Nat} {p : Pos} : ∀ {k : D} {v : Const}, cstC k v = true → PE X (.Constant v j p) (tF X.K fad kd fun _ st => some (k, st))
  | .non, .none, _ => pe_cstF pe_non (fun _ _ _ => .non) rfl
  | .bl b, .bool b', h => by
    have e : b = b' := by simpa [cstC] using h
    subst e
    exact pe_cstF pe_bl (fun _ _ _ => .bl _) rfl
  | .int b, .int b', h => by
    have e : b = b' := by simpa [cstC] using h
    subst e
    exact pe_cstF pe_int (fun _ _ _ => .int _) rfl
  | .str b, .str b', h => by
    have e : b = codes b' := by simpa [cstC] using h
    subst e
    exact pe_cstF pe_str (fun _ _ _ => .str _) rfl
theorem good_cst (k : D) : Good fad P d (.cst k) := by
  have inv : ∀ {c : Mc} {sc : Scope} {it bw : Bool} {ex : Expr}, mE c sc it bw (.cst k) ex = true → ∃ v j p, ex = .Constant v j p ∧ cstC k v = true := fun {c sc it bw ex} h => by
    cases ex <;> try (exact nomatch (show false = true from h))
    exact ⟨_, _, _, rfl, h⟩
  refine Good.plain rfl rfl (fun c sc bw es => by cases es <;> rfl) (fun c sc ks vs => by cases ks <;> cases vs <;> rfl) (fun h => ?_) (fun A S h => ?_) (fun A S f h => nomatch f)
  · obtain ⟨v, j, p, rfl, _⟩ := inv h
    exact ⟨(fun _ _ _ z => nomatch z), fun _ _ => rfl⟩
  · obtain ⟨v, j, p, rfl, h⟩ := inv h
    rw [ev_cst]
    exact cst_pe h
theorem good_var (i : Nat) : Good fad P d (.var i) := by
  have inv : ∀ {c : Mc} {sc : Scope} {it bw : Bool} {ex : Expr}, mE c sc it bw (.var i) ex = true → ∃ x p, ex = .Name x p ∧ varC c sc i x = true := fun {c sc it bw ex} h => by
    cases ex <;> try (exact nomatch (show false = true from h))
    exact ⟨_, _, rfl, h⟩
  refine Good.plain rfl rfl (fun c sc bw es => by cases es <;> rfl) (fun c sc ks vs => by cases ks <;> cases vs <;> rfl) (fun h => ?_) (fun {X c sc it bw ex} A S h => ?_) (fun A S f h => nomatch f)
  · obtain ⟨x, p, rfl, _⟩ := inv h
    exact ⟨(fun _ _ _ z => nomatch z), fun _ _ => rfl⟩
  · obtain ⟨x, p, rfl, h⟩ := inv h
    obtain ⟨h1, h2, h3, h4⟩ := A.var h
    cases bw with
    | true => rw [ev_varT]; exact pe_varB h1 h2 h3 h4
    | false => rw [ev_varF]; exact pe_varV h1 h2 h3 h4
theorem good_glo (n : Nat) : Good fad P d (.glo n) := by
  have inv : ∀ {c : Mc} {sc : Scope} {it bw : Bool} {ex : Expr}, mE c sc it bw (.glo n) ex = true → ∃ x p, ex = .Name x p ∧ gloC sc x = true ∧ (x, n) ∈ c.csts := fun {c sc it bw ex} h => by
    cases ex <;> try (exact nomatch (show false = true from h))
    rename_i x p
    have h : (gloC sc x && c.csts.contains (x, n)) = true := h
    rw [Bool.and_eq_true] at h
    exact ⟨_, _, rfl, h.1, by simpa using h.2⟩
  refine Good.plain rfl rfl (fun c sc bw es => by cases es <;> rfl) (fun c sc ks vs => by cases ks <;> cases vs <;> rfl) (fun h => ?_) (fun {X c sc it bw ex} A S h => ?_) (fun A S f h => nomatch f)
  · obtain ⟨x, p, rfl, _⟩ := inv h
    exact ⟨(fun _ _ _ z => nomatch z), fun _ _ => rfl⟩
  · obtain ⟨x, p, rfl, h1, h2⟩ := inv h
    obtain ⟨v, u, k, e1, e2, e3, e4, e5⟩ := A.cst _ h2
    obtain ⟨g1, g2, _⟩ := A.gl h1
    rw [ev_glo]
    have e1 : P.consts[n]? = some k := e1
    simp only [e1, Option.map_some]
    exact pe_cstF (pe_gloF g1 e3 g2 e4) e5 e2
theorem good_fnv (n : Nat) : Good fad P d (.fnv n) := by
  have inv : ∀ {c : Mc} {sc : Scope} {it bw : Bool} {ex : Expr}, mE c sc it bw (.fnv n) ex = true → ∃ x p, ex = .Name x p ∧ fnC c sc n x = true := fun {c sc it bw ex} h => by
    cases ex <;> try (exact nomatch (show false = true from h))
    exact ⟨_, _, rfl, h⟩
  refine Good.plain rfl rfl (fun c sc bw es => by cases es <;> rfl) (fun c sc ks vs => by cases ks <;> cases vs <;> rfl) (fun h => ?_) (fun {X c sc it bw ex} A S h => ?_) (fun A S f h => nomatch f)
  · obtain ⟨x, p, rfl, _⟩ := inv h
    exact ⟨(fun _ _ _ z => nomatch z), fun _ _ => rfl⟩
  · obtain ⟨x, p, rfl, h⟩ := inv h
    obtain ⟨h1, h2, h3, _⟩ := A.fn h
    rw [ev_fnv]
    exact pe_cstF (pe_gloF h1 h2 h3 (v := .ref (fad n)) rfl) (fun _ _ _ => .fn n) rfl
theorem good_bin (o : Mini.Bin) {a b : T} (ga : Good fad P d a) (gb : Good fad P d b) : Good fad P d (.bin o a b) := by
  have inv : ∀ {c : Mc} {sc : Scope} {it bw : Bool} {ex : Expr}, mE c sc it bw (.bin o a b) ex = true → ∃ ea eb p, ex = .BinOp ea (opOf o) eb p ∧ mE c sc false true a ea = true ∧ mE c sc false true b eb = true := fun {c sc it bw ex} h => by
    cases ex <;> try (exact nomatch (show false = true from h))
    rename_i ea op eb p
    have h' : (bopC o op && mE c sc false true a ea && mE c sc false true b eb) = true := h
    simp only [Bool.and_eq_true, bopC, decide_eq_true_eq] at h'
    obtain ⟨⟨rfl, h2⟩, h3⟩ := h'
    exact ⟨_, _, _, rfl, h2, h3⟩
  refine Good.plain rfl rfl (fun c sc bw es => by cases es <;> rfl) (fun c sc ks vs => by cases ks <;> cases vs <;> rfl) (fun h => ?_) (fun {X c sc it bw ex} A S h => ?_) (fun {X c sc it bw ex} A S f h => ?_)
  · obtain ⟨_, _, _, rfl, _⟩ := inv h
    exact ⟨(fun _ _ _ z => nomatch z), fun _ _ => rfl⟩
  · obtain ⟨ea, eb, p, rfl, h1, h2⟩ := inv h
    rw [ev_bin]
    exact pe_binF o (ga.ge A S (notIt h1) h1) (gb.ge A S (notIt h2) h2)
  · obtain ⟨ea, eb, p, rfl, h1, h2⟩ := inv h
    rw [ev_bin]
    exact pe_binFr o (ga.ge A S (notIt h1) h1) (gb.ge A S (notIt h2) h2)
end
end Snd
end

section
set_option autoImplicit false
set_option Elab.async false
set_option linter.all false
set_option maxRecDepth 100000
set_option maxHeartbeats 4000000
/-! Snd28: the goodness of each tree: tests, calls, displays. -/
namespace Snd
open PySem PySem.Spec PyProof.Rows L2
open Mini (D Sl T Fl Cfg evE evEs evC evKs)
section
variable {fad : Nat → Addr} {P : Mini.Prog} {d : Nat}
theorem good_neg {a : T} (ga : Good fad P d a) : Good fad P d (.neg a) := by
  have inv : ∀ {c : Mc} {sc : Scope} {it bw : Bool} {ex : Expr}, mE c sc it bw (.neg a) ex = true → ∃ ea p, ex = .UnaryOp .USub ea p ∧ mE c sc false true a ea = true := fun {c sc it bw ex} h => by
    match ex, h with
    | .UnaryOp .USub ea p, h => exact ⟨ea, p, rfl, h⟩
  refine Good.plain rfl rfl (fun c sc bw es => by cases es <;> rfl) (fun c sc ks vs => by cases ks <;> cases vs <;> rfl) (fun h => ?_) (fun {X c sc it bw ex} A S h => ?_) (fun A S f h => nomatch f)
  · obtain ⟨_, _, rfl, _⟩ := inv h
    exact ⟨(fun _ _ _ z => nomatch z), fun _ _ => rfl⟩
  · obtain ⟨ea, p, rfl, h1⟩ := inv h
    rw [ev_neg]
    exact pe_negF (ga.ge A S (notIt h1) h1)
/-- an expression that is its own test -/
theorem Good.test {t : T} (hi : isIt t = false) (hr : isRng t = false) (hf : isFr t = false) (h2 : ∀ c sc bw es, mEs c sc bw t es = false) (h3 : ∀ c sc ks vs, mPs c sc t ks vs = false)
    (hs : ∀ {c : Mc} {sc : Scope} {it bw : Bool} {ex : Expr}, mE c sc it bw t ex = true → ∀ op es p, ex ≠ .BoolOp op es p)
    (he : ∀ {X : Cx} {c : Mc} {sc : Scope} {it bw : Bool} {ex : Expr}, At X fad P d c sc → SpOk X fad → mE c sc it bw t ex = true → PE X ex (tF X.K fad (kdOf bw) (evE ⟨P.consts, Mini.callP P d⟩ bw t)))
    (ht : ∀ {X : Cx} {c : Mc} {sc : Scope} {it : Bool} {ex : Expr}, At X fad P d c sc → SpOk X fad → mE c sc it true t ex = true → PT X ex (tFT X.K fad (evE ⟨P.consts, Mini.callP P d⟩ true t))) : Good fad P d t :=
  ⟨fun A S _ h => he A S h, (fun _ _ h => by rw [hi] at h; cases h), (fun _ _ h => by rw [hr] at h; cases h), (fun _ _ h => by rw [hf] at h; cases h), fun A S _ h => absurd rfl (hs h _ _ _), fun A S _ h => ht A S h, (fun _ _ h => by rw [h2] at h; cases h), (fun _ _ h => by rw [h2] at h; cases h), (fun _ _ h => by rw [h3] at h; cases h)⟩
theorem good_nt {a : T} (ga : Good fad P d a) : Good fad P d (.nt a) := by
  have inv : ∀ {c : Mc} {sc : Scope} {it bw : Bool} {ex : Expr}, mE c sc it bw (.nt a) ex = true → ∃ ea p, ex = .UnaryOp .Not ea p ∧ mE c sc false true a ea = true := fun {c sc it bw ex} h => by
    match ex, h with
    | .UnaryOp .Not ea p, h => exact ⟨ea, p, rfl, h⟩
  refine Good.test rfl rfl rfl (fun c sc bw es => by cases es <;> rfl) (fun c sc ks vs => by cases ks <;> cases vs <;> rfl) (fun h => ?_) (fun {X c sc it bw ex} A S h => ?_) (fun {X c sc it ex} A S h => ?_)
  · obtain ⟨_, _, rfl, _⟩ := inv h
    exact fun _ _ _ z => nomatch z
  · obtain ⟨ea, p, rfl, h1⟩ := inv h
    rw [ev_nt]
    exact pe_notF (ga.ge A S (notIt h1) h1)
  · obtain ⟨ea, p, rfl, h1⟩ := inv h
    rw [ev_nt]
    exact pt_notF (ga.gt A S (notIt h1) h1)
theorem good_cmp (o : Mini.Cm) {a b : T} (ga : Good fad P d a) (gb : Good fad P d b) : Good fad P d (.cmp o a b) := by
  have inv : ∀ {c : Mc} {sc : Scope} {it bw : Bool} {ex : Expr}, mE c sc it bw (.cmp o a b) ex = true → ∃ ea eb p, ex = .Compare ea [cmOf o] [eb] p ∧ noSet eb = true ∧ mE c sc false true a ea = true ∧ mE c sc false true b eb = true := fun {c sc it bw ex} h => by
    match ex, h with
    | .Compare ea [op] [eb] p, h =>
      have h' : (decide (cmOf o = op) && noSet eb && mE c sc false true a ea && mE c sc false true b eb) = true := h
      simp only [Bool.and_eq_true, decide_eq_true_eq] at h'
      obtain ⟨⟨⟨rfl, h1⟩, h2⟩, h3⟩ := h'
      exact ⟨_, _, _, rfl, h1, h2, h3⟩
  refine Good.test rfl rfl rfl (fun c sc bw es => by cases es <;> rfl) (fun c sc ks vs => by cases ks <;> cases vs <;> rfl) (fun h => ?_) (fun {X c sc it bw ex} A S h => ?_) (fun {X c sc it ex} A S h => ?_)
  · obtain ⟨_, _, _, rfl, _⟩ := inv h
    exact fun _ _ _ z => nomatch z
  · obtain ⟨ea, eb, p, rfl, h0, h1, h2⟩ := inv h
    rw [ev_cmp]
    exact pe_cmF A.un o (ga.ge A S (notIt h1) h1) (gb.ge A S (notIt h2) h2) (noMarks h0)
  · obtain ⟨ea, eb, p, rfl, h0, h1, h2⟩ := inv h
    rw [ev_cmp]
    exact pt_cmF A.un o (ga.ge A S (notIt h1) h1) (gb.ge A S (notIt h2) h2) (noMarks h0)
theorem good_chn (o q : Mini.Cm) {a b k : T} (ga : Good fad P d a) (gb : Good fad P d b) (gk : Good fad P d k) : Good fad P d (.chn o q a b k) := by
  have inv : ∀ {c : Mc} {sc : Scope} {it bw : Bool} {ex : Expr}, mE c sc it bw (.chn o q a b k) ex = true → ∃ ea eb ek p, ex = .Compare ea [cmOf o, cmOf q] [eb, ek] p ∧ noSet ek = true ∧ mE c sc false true a ea = true ∧ mE c sc false true b eb = true ∧ mE c sc false true k ek = true := fun {c sc it bw ex} h => by
    match ex, h with
    | .Compare ea [op, oq] [eb, ek] p, h =>
      have h' : (decide (cmOf o = op) && decide (cmOf q = oq) && noSet ek && mE c sc false true a ea && mE c sc false true b eb && mE c sc false true k ek) = true := h
      simp only [Bool.and_eq_true, decide_eq_true_eq] at h'
      obtain ⟨⟨⟨⟨⟨rfl, rfl⟩, h1⟩, h2⟩, h3⟩, h4⟩ := h'
      exact ⟨_, _, _, _, rfl, h1, h2, h3, h4⟩
  refine Good.test rfl rfl rfl (fun c sc bw es => by cases es <;> rfl) (fun c sc ks vs => by cases ks <;> cases vs <;> rfl) (fun h => ?_) (fun {X c sc it bw ex} A S h => ?_) (fun {X c sc it ex} A S h => ?_)
  · obtain ⟨_, _, _, _, rfl, _⟩ := inv h
    exact fun _ _ _ z => nomatch z
  · obtain ⟨ea, eb, ek, p, rfl, h0, h1, h2, h3⟩ := inv h
    rw [ev_chn]
    exact pe_chF A.un o q (ga.ge A S (notIt h1) h1) (gb.ge A S (notIt h2) h2) (gk.ge A S (notIt h3) h3) (noMarks h0)
  · obtain ⟨ea, eb, ek, p, rfl, h0, h1, h2, h3⟩ := inv h
    rw [ev_chn]
    exact pt_chF A.un o q (ga.ge A S (notIt h1) h1) (gb.ge A S (notIt h2) h2) (gk.ge A S (notIt h3) h3) (noMarks h0)
theorem good_ife {k a b : T} (gk : Good fad P d k) (ga : Good fad P d a) (gb : Good fad P d b) : Good fad P d (.ife k a b) := by
  have inv : ∀ {c : Mc} {sc : Scope} {it bw : Bool} {ex : Expr}, mE c sc it bw (.ife k a b) ex = true → ∃ ek ea eb p, ex = .IfExp ek ea eb p ∧ mE c sc false true k ek = true ∧ mE c sc false bw a ea = true ∧ mE c sc false bw b eb = true := fun {c sc it bw ex} h => by
    match ex, h with
    | .IfExp ek ea eb p, h =>
      have h' : (mE c sc false true k ek && mE c sc false bw a ea && mE c sc false bw b eb) = true := h
      simp only [Bool.and_eq_true] at h'
      exact ⟨_, _, _, _, rfl, h'.1.1, h'.1.2, h'.2⟩
  refine Good.test rfl rfl rfl (fun c sc bw es => by cases es <;> rfl) (fun c sc ks vs => by cases ks <;> cases vs <;> rfl) (fun h => ?_) (fun {X c sc it bw ex} A S h => ?_) (fun {X c sc it ex} A S h => ?_)
  · obtain ⟨_, _, _, _, rfl, _⟩ := inv h
    exact fun _ _ _ z => nomatch z
  · obtain ⟨ek, ea, eb, p, rfl, h0, h1, h2⟩ := inv h
    rw [ev_ife]
    exact pe_ifF (gk.gt A S (notIt h0) h0) (ga.ge A S (notIt h1) h1) (gb.ge A S (notIt h2) h2)
  · obtain ⟨ek, ea, eb, p, rfl, h0, h1, h2⟩ := inv h
    rw [ev_ife]
    exact pt_ifF (gk.gt A S (notIt h0) h0) (ga.gt A S (notIt h1) h1) (gb.gt A S (notIt h2) h2)
theorem andInv {a b : T} {c : Mc} {sc : Scope} {it bw : Bool} {ex : Expr} (h : mE c sc it bw (.and a b) ex = true) : ∃ ea eb r p, ex = .BoolOp .And (ea :: eb :: r) p ∧ mE c sc false true a ea = true ∧ ((r = [] ∧ mE c sc false bw b eb = true) ∨ mE c sc false bw b (.BoolOp .And (eb :: r) p) = true) := by
  match ex, h with
  | .BoolOp .And [ea, eb] p, h =>
    have h' : (mE c sc false true a ea && mE c sc false bw b eb) = true := h
    rw [Bool.and_eq_true] at h'
    exact ⟨ea, eb, [], p, rfl, h'.1, .inl ⟨rfl, h'.2⟩⟩
  | .BoolOp .And (ea :: eb :: e3 :: r) p, h =>
    have h' : (mE c sc false true a ea && mE c sc false bw b (.BoolOp .And (eb :: e3 :: r) p)) = true := h
    rw [Bool.and_eq_true] at h'
    exact ⟨ea, eb, e3 :: r, p, rfl, h'.1, .inr h'.2⟩
theorem orInv {a b : T} {c : Mc} {sc : Scope} {it bw : Bool} {ex : Expr} (h : mE c sc it bw (.or a b) ex = true) : ∃ ea eb r p, ex = .BoolOp .Or (ea :: eb :: r) p ∧ mE c sc false true a ea = true ∧ ((r = [] ∧ mE c sc false bw b eb = true) ∨ mE c sc false bw b (.BoolOp .Or (eb :: r) p) = true) := by
  match ex, h with
  | .BoolOp .Or [ea, eb] p, h =>
    have h' : (mE c sc false true a ea && mE c sc false bw b eb) = true := h
    rw [Bool.and_eq_true] at h'
    exact ⟨ea, eb, [], p, rfl, h'.1, .inl ⟨rfl, h'.2⟩⟩
  | .BoolOp .Or (ea :: eb :: e3 :: r) p, h =>
    have h' : (mE c sc false true a ea && mE c sc false bw b (.BoolOp .Or (eb :: e3 :: r) p)) = true := h
    rw [Bool.and_eq_true] at h'
    exact ⟨ea, eb, e3 :: r, p, rfl, h'.1, .inr h'.2⟩
theorem good_and {a b : T} (ga : Good fad P d a) (gb : Good fad P d b) : Good fad P d (.and a b) := by
  have pw : ∀ {X : Cx} {c : Mc} {sc : Scope} {it : Bool} {ex : Expr}, At X fad P d c sc → SpOk X fad → mE c sc it true (.and a b) ex = true → PW X ex (tFT X.K fad (evE ⟨P.consts, Mini.callP P d⟩ true (.and a b))) := fun {X c sc it ex} A S h => by
    obtain ⟨ea, eb, r, p, rfl, h1, h2⟩ := andInv h
    rw [ev_and]
    refine pw_andF (ga.gt A S (notIt h1) h1) ?_
    rcases h2 with ⟨rfl, h2⟩ | h2
    · exact pw_and1 (gb.gt A S (notIt h2) h2)
    · exact gb.gw A S (notIt h2) h2
  refine ⟨fun {X c sc it bw ex} A S _ h => ?_, (fun _ _ h => nomatch h), (fun _ _ h => nomatch h), (fun _ _ h => nomatch h), (fun A S _ h => pw A S h), (fun A S _ h => (pw A S h).pt), (fun {X c sc bw exs} _ _ h => by cases exs <;> exact nomatch (show false = true from h)), (fun {X c sc kws} _ _ h => by cases kws <;> exact nomatch (show false = true from h)), (fun {X c sc pos ks vs} _ _ h => by cases ks <;> cases vs <;> exact nomatch (show false = true from h))⟩
  obtain ⟨ea, eb, r, p, rfl, h1, h2⟩ := andInv h
  rw [ev_and]
  refine pe_andF (ga.ge A S (notIt h1) h1) ?_
  rcases h2 with ⟨rfl, h2⟩ | h2
  · exact pe_bool1 (gb.ge A S (notIt h2) h2)
  · exact gb.ge A S (notIt h2) h2
theorem good_or {a b : T} (ga : Good fad P d a) (gb : Good fad P d b) : Good fad P d (.or a b) := by
  have pw : ∀ {X : Cx} {c : Mc} {sc : Scope} {it : Bool} {ex : Expr}, At X fad P d c sc → SpOk X fad → mE c sc it true (.or a b) ex = true → PW X ex (tFT X.K fad (evE ⟨P.consts, Mini.callP P d⟩ true (.or a b))) := fun {X c sc it ex} A S h => by
    obtain ⟨ea, eb, r, p, rfl, h1, h2⟩ := orInv h
    rw [ev_or]
    refine pw_orF (ga.gt A S (notIt h1) h1) ?_
    rcases h2 with ⟨rfl, h2⟩ | h2
    · exact pw_or1 (gb.gt A S (notIt h2) h2)
    · exact gb.gw A S (notIt h2) h2
  refine ⟨fun {X c sc it bw ex} A S _ h => ?_, (fun _ _ h => nomatch h), (fun _ _ h => nomatch h), (fun _ _ h => nomatch h), (fun A S _ h => pw A S h), (fun A S _ h => (pw A S h).pt), (fun {X c sc bw exs} _ _ h => by cases exs <;> exact nomatch (show false = true from h)), (fun {X c sc kws} _ _ h => by cases kws <;> exact nomatch (show false = true from h)), (fun {X c sc pos ks vs} _ _ h => by cases ks <;> cases vs <;> exact nomatch (show false = true from h))⟩
  obtain ⟨ea, eb, r, p, rfl, h1, h2⟩ := orInv h
  rw [ev_or]
  refine pe_orF (ga.ge A S (notIt h1) h1) ?_
  rcases h2 with ⟨rfl, h2⟩ | h2
  · exact pe_bool1 (gb.ge A S (notIt h2) h2)
  · exact gb.ge A S (notIt h2) h2
end
end Snd
end

section
set_option autoImplicit false
set_option Elab.async false
set_option linter.all false
set_option maxRecDepth 100000
set_option maxHeartbeats 4000000
/-! Snd29: the goodness of each tree: calls, subscripts, displays. -/
namespace Snd
open PySem PySem.Spec PyProof.Rows L2
open Mini (D Sl T Fl Cfg evE evEs evC evKs)
section
variable {fad : Nat → Addr} {P : Mini.Prog} {d : Nat}
theorem good_call (f : Nat) {as : T} (ga : Good fad P d as) : Good fad P d (.call f as) := by
  have inv : ∀ {c : Mc} {sc : Scope} {it bw : Bool} {ex : Expr}, mE c sc it bw (.call f as) ex = true → ∃ x q es p, ex = .Call (.Name x q) es [] p ∧ fnC c sc f x = true ∧ mEs c sc false as es = true := fun {c sc it bw ex} h => by
    match ex, h with
    | .Call (.Name x q) es [] p, h =>
      have h' : (fnC c sc f x && mEs c sc false as es) = true := h
      rw [Bool.and_eq_true] at h'
      exact ⟨x, q, es, p, rfl, h'.1, h'.2⟩
  refine Good.plain rfl rfl (fun c sc bw es => by cases es <;> rfl) (fun c sc ks vs => by cases ks <;> cases vs <;> rfl) (fun h => ?_) (fun {X c sc it bw ex} A S h => ?_) (fun A S f h => nomatch f)
  · obtain ⟨_, _, _, _, rfl, _⟩ := inv h
    exact ⟨(fun _ _ _ z => nomatch z), fun _ _ => rfl⟩
  · obtain ⟨x, q, es, p, rfl, h1, h2⟩ := inv h
    obtain ⟨g1, g2, g3, F, hF⟩ := A.fn h1
    obtain ⟨fd, ps, C, _⟩ := A.cal f F hF
    rw [ev_call]
    cases es with
    | nil =>
      have e : as = .nil := by cases as <;> first | rfl | exact nomatch (show false = true from h2)
      subst e
      rw [es_nil]
      exact pe_call0F kd_bv C A.gd A.room g1 g2 g3
    | cons e es => exact pe_callF kd_bv C A.gd A.room g1 g2 g3 (ga.gs A S h2) (mEs_star h2)
theorem kwEach {pos : Pos} {env : Env} : ∀ {kws : List Keyword} {ks : List Str}, kws.map (·.arg) = ks.map some → (backToKw pos (keywordEach kws env)).map (·.1) = ks.map some := by
  intro kws ks h
  have h1 : ∀ (l : List (Option Str × Sem Value)), (backToKw pos l).map (·.1) = l.map (·.1) := fun l => by
    unfold backToKw
    rw [List.map_map]
    rfl
  have h2 : ∀ (kws : List Keyword), (keywordEach kws env).map (·.1) = kws.map (·.arg) := fun kws => by
    induction kws with
    | nil => rfl
    | cons k kws ih =>
      cases k
      show _ :: (keywordEach kws env).map (·.1) = _ :: kws.map (·.arg)
      rw [ih]
  rw [h1, h2, h]
theorem kwFacts {l : List (Option Str × Sem Value)} {ks : List Str} (h : l.map (·.1) = ks.map some) : l.all (·.1.isSome) = true ∧ l.filterMap (·.1) = ks ∧ l.any (·.1.isNone) = false := by
  induction l generalizing ks with
  | nil => cases ks <;> simp_all
  | cons a l ih =>
    cases ks with
    | nil => simp at h
    | cons k ks =>
      rw [List.map_cons, List.map_cons, List.cons.injEq] at h
      obtain ⟨i1, i2, i3⟩ := ih h.2
      refine ⟨?_, ?_, ?_⟩
      · rw [List.all_cons, i1, h.1]; rfl
      · rw [List.filterMap_cons, h.1]; simp [i2]
      · rw [List.any_cons, i3, h.1]; rfl
theorem good_callK (f : Nat) {as ks : T} (ns : List (List Nat)) (perm : List Nat) (ga : Good fad P d as) (gk : Good fad P d ks) : Good fad P d (.callK f as ks ns perm) := by
  have inv : ∀ {c : Mc} {sc : Scope} {it bw : Bool} {ex : Expr}, mE c sc it bw (.callK f as ks ns perm) ex = true → ∃ x q es kws p, ex = .Call (.Name x q) es kws p ∧ fnC c sc f x = true ∧ mEs c sc false as es = true ∧ mEs c sc false ks (kws.map (·.value)) = true ∧ kws.map (·.arg) = (ns.map fun n => (⟨n.toArray⟩ : Str)).map some ∧ (f, es.length, ns.map (fun n => (⟨n.toArray⟩ : Str)), perm) ∈ c.kws := fun {c sc it bw ex} h => by
    match ex, h with
    | .Call (.Name x q) es kws p, h =>
      have h' : (fnC c sc f x && mEs c sc false as es && mEs c sc false ks (kws.map (·.value)) && decide (kws.map (·.arg) = ns.map fun n => some (⟨n.toArray⟩ : Str)) && c.kws.contains (f, es.length, ns.map (fun n => (⟨n.toArray⟩ : Str)), perm)) = true := h
      simp only [Bool.and_eq_true, decide_eq_true_eq] at h'
      obtain ⟨⟨⟨⟨h1, h2⟩, h3⟩, h4⟩, h5⟩ := h'
      exact ⟨x, q, es, kws, p, rfl, h1, h2, h3, by rw [h4, List.map_map]; rfl, by simpa using h5⟩
  refine Good.plain rfl rfl (fun c sc bw es => by cases es <;> rfl) (fun c sc ks vs => by cases ks <;> cases vs <;> rfl) (fun h => ?_) (fun {X c sc it bw ex} A S h => ?_) (fun A S f h => nomatch f)
  · obtain ⟨_, _, _, _, _, rfl, _⟩ := inv h
    exact ⟨(fun _ _ _ z => nomatch z), fun _ _ => rfl⟩
  · obtain ⟨x, q, es, kws, p, rfl, h1, h2, h3, h4, h5⟩ := inv h
    obtain ⟨g1, g2, g3, F, hF⟩ := A.fn h1
    obtain ⟨fd, ps, C, K⟩ := A.cal f F hF
    have kb := K _ h5 rfl
    obtain ⟨k1, k2, k3⟩ := kwFacts (kwEach (pos := p) (env := X.env) h4)
    have hl2 : ∀ env st xs st', evEs ⟨P.consts, Mini.callP P d⟩ false ks env st = some (xs, st') → xs.length = (ns.map fun n => (⟨n.toArray⟩ : Str)).length := fun env st xs st' e => by
      have l1 := mEs_len h3 e
      have l2 := congrArg List.length h4
      simp only [List.length_map] at l1 l2 ⊢
      omega
    rw [ev_callK]
    cases es with
    | nil =>
      have e : as = .nil := by cases as <;> first | rfl | exact nomatch (show false = true from h2)
      subst e
      rw [es_nil]
      exact pe_callK0F kd_bv C kb A.gd A.room g1 g2 g3 (gk.gk A S h3) k1 k2 k3 hl2
    | cons e es => exact pe_callKF kd_bv C kb A.gd A.room g1 g2 g3 (ga.gs A S h2) (mEs_star h2) (gk.gk A S h3) k1 k2 k3 (fun env st xs st' e' => mEs_len h2 e') hl2
theorem callP_fn {n : Nat} {xs : List D} {st st' : Mini.St} {r : D} (h : Mini.callP P d n xs st = some (r, st')) : ∃ F, P.fns[n]? = some F := by
  cases d with
  | zero => cases h
  | succ d =>
    unfold Mini.callP at h
    obtain ⟨F, e, _⟩ := Option.bind_eq_some_iff.mp h
    exact ⟨F, e⟩
theorem good_callV {f as : T} (ga : Good fad P d as) : Good fad P d (.callV f as) := by
  have inv : ∀ {c : Mc} {sc : Scope} {it bw : Bool} {ex : Expr}, mE c sc it bw (.callV f as) ex = true → ∃ i x q e es p, f = .var i ∧ ex = .Call (.Name x q) (e :: es) [] p ∧ varC c sc i x = true ∧ mEs c sc false as (e :: es) = true := fun {c sc it bw ex} h => by
    match f, ex, h with
    | .var i, .Call (.Name x q) (e :: es) [] p, h =>
      have h' : (varC c sc i x && mEs c sc false as (e :: es)) = true := h
      rw [Bool.and_eq_true] at h'
      exact ⟨i, x, q, e, es, p, rfl, rfl, h'.1, h'.2⟩
  refine Good.plain rfl rfl (fun c sc bw es => by cases es <;> rfl) (fun c sc ks vs => by cases ks <;> cases vs <;> rfl) (fun h => ?_) (fun {X c sc it bw ex} A S h => ?_) (fun A S f h => nomatch f)
  · obtain ⟨_, _, _, _, _, _, _, rfl, _⟩ := inv h
    exact ⟨(fun _ _ _ z => nomatch z), fun _ _ => rfl⟩
  · obtain ⟨i, x, q, e, es, p, rfl, rfl, h1, h2⟩ := inv h
    obtain ⟨g1, g2, g3, g4⟩ := A.var h1
    rw [ev_callV, ev_varT]
    exact pe_callVF kd_bv (fun n xs st r st' e => let ⟨F, hF⟩ := callP_fn e; let ⟨fd, ps, C, _⟩ := A.cal n F hF; ⟨fd, ps, C⟩) A.gd A.room (pe_varB g1 g2 g3 g4) (ga.gs A S h2) (mEs_star h2)
theorem plain_ix {e : Expr} (h : plainIx e = true) : PlainIx e := by
  intro o i
  cases e <;> first | rfl | exact nomatch (show false = true from h)
theorem good_ix {a i : T} (ga : Good fad P d a) (gi : Good fad P d i) : Good fad P d (.ix a i) := by
  have inv : ∀ {c : Mc} {sc : Scope} {it bw : Bool} {ex : Expr}, mE c sc it bw (.ix a i) ex = true → ∃ ea ei p, ex = .Subscript ea ei p ∧ plainIx ei = true ∧ mE c sc false true a ea = true ∧ mE c sc false true i ei = true := fun {c sc it bw ex} h => by
    match ex, h with
    | .Subscript ea ei p, h =>
      have h' : (plainIx ei && mE c sc false true a ea && mE c sc false true i ei) = true := h
      simp only [Bool.and_eq_true] at h'
      exact ⟨_, _, _, rfl, h'.1.1, h'.1.2, h'.2⟩
  refine Good.plain rfl rfl (fun c sc bw es => by cases es <;> rfl) (fun c sc ks vs => by cases ks <;> cases vs <;> rfl) (fun h => ?_) (fun {X c sc it bw ex} A S h => ?_) (fun A S f h => nomatch f)
  · obtain ⟨_, _, _, rfl, _⟩ := inv h
    exact ⟨(fun _ _ _ z => nomatch z), fun _ _ => rfl⟩
  · obtain ⟨ea, ei, p, rfl, h0, h1, h2⟩ := inv h
    rw [ev_ix]
    exact pe_ixF kd_bv A.un (ga.ge A S (notIt h1) h1) (gi.ge A S (notIt h2) h2) (plain_ix h0)
theorem good_tup {as : T} (ga : Good fad P d as) : Good fad P d (.tup as) := by
  have inv : ∀ {c : Mc} {sc : Scope} {it bw : Bool} {ex : Expr}, mE c sc it bw (.tup as) ex = true → ∃ es k p, ex = .Tuple es k p ∧ mEs c sc false as es = true := fun {c sc it bw ex} h => by
    match ex, h with
    | .Tuple es k p, h => exact ⟨es, k, p, rfl, h⟩
  refine Good.plain rfl rfl (fun c sc bw es => by cases es <;> rfl) (fun c sc ks vs => by cases ks <;> cases vs <;> rfl) (fun h => ?_) (fun {X c sc it bw ex} A S h => ?_) (fun A S f h => nomatch f)
  · obtain ⟨_, _, _, rfl, _⟩ := inv h
    exact ⟨(fun _ _ _ z => nomatch z), fun _ _ => rfl⟩
  · obtain ⟨es, k, p, rfl, h1⟩ := inv h
    rw [ev_tup]
    exact pe_tupF (ga.gs A S h1)
theorem good_lst {as : T} (ga : Good fad P d as) : Good fad P d (.lst as) := by
  have inv : ∀ {c : Mc} {sc : Scope} {it bw : Bool} {ex : Expr}, mE c sc it bw (.lst as) ex = true → ∃ es p, ex = .List es p ∧ mEs c sc false as es = true := fun {c sc it bw ex} h => by
    match ex, h with
    | .List es p, h => exact ⟨es, p, rfl, h⟩
  refine Good.plain rfl rfl (fun c sc bw es => by cases es <;> rfl) (fun c sc ks vs => by cases ks <;> cases vs <;> rfl) (fun h => ?_) (fun {X c sc it bw ex} A S h => ?_) (fun {X c sc it bw ex} A S f h => ?_)
  · obtain ⟨_, _, rfl, _⟩ := inv h
    exact ⟨(fun _ _ _ z => nomatch z), fun _ _ => rfl⟩
  · obtain ⟨es, p, rfl, h1⟩ := inv h
    rw [ev_lst]
    exact pe_lstF (ga.gs A S h1)
  · obtain ⟨es, p, rfl, h1⟩ := inv h
    rw [ev_lst]
    exact pe_lstFr (ga.gs A S h1)
theorem good_get2 {o k x : T} (go : Good fad P d o) (gk : Good fad P d k) (gx : Good fad P d x) : Good fad P d (.get2 o k x) := by
  have inv : ∀ {c : Mc} {sc : Scope} {it bw : Bool} {ex : Expr}, mE c sc it bw (.get2 o k x) ex = true → ∃ n q ap ek ed cp, ex = .Call (.Attribute (.Name n q) "get" ap) [ek, ed] [] cp ∧ (ap.endLine == cp.line) = true ∧ mE c sc false true o (.Name n q) = true ∧ mE c sc false true k ek = true ∧ mE c sc false false x ed = true := fun {c sc it bw ex} h => by
    match ex, h with
    | .Call (.Attribute eo a ap) [ek, ed] [] cp, h =>
      have h' : (decide (a = "get") && isName eo && (ap.endLine == cp.line) && mE c sc false true o eo && mE c sc false true k ek && mE c sc false false x ed) = true := h
      simp only [Bool.and_eq_true, decide_eq_true_eq] at h'
      obtain ⟨⟨⟨⟨⟨rfl, hn⟩, h1⟩, h2⟩, h3⟩, h4⟩ := h'
      match eo, hn with
      | .Name n q, _ => exact ⟨n, q, ap, ek, ed, cp, rfl, h1, h2, h3, h4⟩
  refine Good.plain rfl rfl (fun c sc bw es => by cases es <;> rfl) (fun c sc ks vs => by cases ks <;> cases vs <;> rfl) (fun h => ?_) (fun {X c sc it bw ex} A S h => ?_) (fun A S f h => nomatch f)
  · obtain ⟨_, _, _, _, _, _, rfl, _⟩ := inv h
    exact ⟨(fun _ _ _ z => nomatch z), fun _ _ => rfl⟩
  · obtain ⟨n, q, ap, ek, ed, cp, rfl, h1, h2, h3, h4⟩ := inv h
    rw [ev_get2]
    have s3 := mE_star h3
    have s4 := mE_star h4
    have st : starEach [ek, ed] X.env = [(false, eval ek X.env), (false, eval ed X.env)] := by rw [noStar s3, noStar s4]; rfl
    refine pe_get2F kd_bv (by have := A.un; omega) (go.ge A S (notIt h2) h2) (gk.ge A S (notIt h3) h3) (gx.ge A S (notIt h4) h4) ⟨by rfl, ?_, h1, ?_⟩
    · rw [st]; rfl
    · rw [st]; rfl
end
end Snd
end

section
set_option autoImplicit false
set_option Elab.async false
set_option linter.all false
set_option maxRecDepth 100000
set_option maxHeartbeats 4000000
/-! Snd30: the goodness of each tree: slices, dicts, comprehensions, what loops walk, lists. -/
namespace Snd
open PySem PySem.Spec PyProof.Rows L2
open Mini (D Sl T Fl Cfg evE evEs evC evKs)
section
variable {fad : Nat → Addr} {P : Mini.Prog} {d : Nat}
theorem nonT {t : T} (h : isNonT t = true) : t = .cst .non := by
  match t, h with
  | .cst .non, _ => rfl
theorem bnd_int {t : T} (ht : t ≠ .cst .non) {f : EvF} : ∀ env st st', bndF t f env st ≠ some (.non, st') := fun env st st' h => by
  obtain ⟨⟨y, s⟩, e1, h⟩ := Option.bind_eq_some_iff.mp h
  obtain ⟨z, e2, h⟩ := Option.map_eq_some_iff.mp h
  cases h
  unfold Mini.bndD at e2
  split at e2
  · exact ht rfl
  · cases e2
  · cases e2
theorem bnd_ok {X : Cx} {c : Mc} {sc : Scope} {t : T} {o : Option Expr} (g : Good fad P d t) (A : At X fad P d c sc) (S : SpOk X fad) (h : bndC t o (fun e => mE c sc false true t e) = true) : ∃ tl, Bnd X fad o tl (bndF t (evE ⟨P.consts, Mini.callP P d⟩ true t)) := by
  cases o with
  | none =>
    have ht := nonT (show isNonT t = true from h)
    subst ht
    have e : bndF (.cst .non) (evE ⟨P.consts, Mini.callP P d⟩ true (.cst .non)) = fun _ st => some (.non, st) := by
      funext env st
      rw [ev_cst]
      rfl
    rw [e]
    exact ⟨_, bnd_none⟩
  | some e =>
    have h : (!isNonT t && mE c sc false true t e) = true := h
    rw [Bool.and_eq_true, Bool.not_eq_true'] at h
    obtain ⟨hn, h'⟩ := h
    have ht : t ≠ .cst .non := fun z => by subst z; cases hn
    have pe := g.ge A S (notIt h') h'
    refine ⟨_, bnd_some (f := bndF t (evE ⟨P.consts, Mini.callP P d⟩ true t)) (pe.imp fun σ H Q q => ?_) (bnd_int ht)⟩
    obtain ⟨Av, ρ, env, st, dd, st', ev, e1, k⟩ := q
    obtain ⟨⟨y, s⟩, e2, e1⟩ := Option.bind_eq_some_iff.mp e1
    obtain ⟨z, e3, e1⟩ := Option.map_eq_some_iff.mp e1
    cases e1
    have ez : y = dd := by
      unfold Mini.bndD at e3
      split at e3
      · exact absurd rfl ht
      · cases e3; rfl
      · cases e3
    subst ez
    exact ⟨Av, ρ, env, st, y, st', ev, e2, k⟩
theorem good_slc {a lo hi : T} (ga : Good fad P d a) (gl : Good fad P d lo) (gh : Good fad P d hi) : Good fad P d (.slc a lo hi) := by
  have inv : ∀ {c : Mc} {sc : Scope} {it bw : Bool} {ex : Expr}, mE c sc it bw (.slc a lo hi) ex = true → ∃ ea l h p q, ex = .Subscript ea (.Slice l h none q) p ∧ mE c sc false true a ea = true ∧ bndC lo l (fun e => mE c sc false true lo e) = true ∧ bndC hi h (fun e => mE c sc false true hi e) = true := fun {c sc it bw ex} h => by
    match ex, h with
    | .Subscript ea (.Slice l r none q) p, h =>
      have h' : (mE c sc false true a ea && bndC lo l (fun e => mE c sc false true lo e) && bndC hi r (fun e => mE c sc false true hi e)) = true := h
      simp only [Bool.and_eq_true] at h'
      exact ⟨_, _, _, _, _, rfl, h'.1.1, h'.1.2, h'.2⟩
  refine Good.plain rfl rfl (fun c sc bw es => by cases es <;> rfl) (fun c sc ks vs => by cases ks <;> cases vs <;> rfl) (fun h => ?_) (fun {X c sc it bw ex} A S h => ?_) (fun A S f h => nomatch f)
  · obtain ⟨_, _, _, _, _, rfl, _⟩ := inv h
    exact ⟨(fun _ _ _ z => nomatch z), fun _ _ => rfl⟩
  · obtain ⟨ea, l, r, p, q, rfl, h0, h1, h2⟩ := inv h
    obtain ⟨tl, bl⟩ := bnd_ok gl A S h1
    obtain ⟨th, bh⟩ := bnd_ok gh A S h2
    rw [ev_slc]
    exact pe_slcF (ga.ge A S (notIt h0) h0) bl bh
theorem good_nil : Good fad P d .nil := by
  refine ⟨fun {X c sc it bw ex} _ _ _ h => (by cases ex <;> exact nomatch (show false = true from h)), (fun _ _ h => nomatch h), (fun _ _ h => nomatch h), (fun _ _ h => nomatch h), (fun _ _ _ h => nomatch (show false = true from h)), (fun {X c sc it ex} _ _ _ h => by cases ex <;> exact nomatch (show false = true from h)), fun {X c sc bw exs} A S h => ?_, fun {X c sc kws} A S h => ?_, fun {X c sc pos ks vs} A S h => ?_⟩
  · cases exs with
    | nil => rw [es_nil]; exact pa_nilF bw
    | cons e es => exact nomatch (show false = true from h)
  · cases kws with
    | nil => rw [es_nil]; exact pk_nilF
    | cons e es => exact nomatch (show false = true from h)
  · match ks, vs, h with
    | [], [], _ =>
      refine ⟨pps_nil, ?_, rfl, rfl, rfl⟩
      funext env st
      simp only [evKs]
      rfl
theorem pairInv {c : Mc} {sc : Scope} {a r : T} {ks : List (Option Expr)} {vs : List Expr} (h : mPs c sc (.cons a r) ks vs = true) : ∃ k v x j p ks' e es, a = .pair (.cst (.str k)) v ∧ ks = some (.Constant (.str x) j p) :: ks' ∧ vs = e :: es ∧ k = codes x ∧ mE c sc false false v e = true ∧ mPs c sc r ks' es = true := by
  match a, ks, vs, h with
  | .pair (.cst (.str k)) v, some (.Constant (.str x) j p) :: ks', e :: es, h =>
    have h' : (decide (k = codes x) && mE c sc false false v e && mPs c sc r ks' es) = true := h
    simp only [Bool.and_eq_true, decide_eq_true_eq] at h'
    exact ⟨k, v, x, j, p, ks', e, es, rfl, rfl, rfl, h'.1.1, h'.1.2, h'.2⟩
end
end Snd
end

section
set_option autoImplicit false
set_option Elab.async false
set_option linter.all false
set_option maxRecDepth 100000
set_option maxHeartbeats 4000000
/-! Snd31: the goodness of each tree: lists, dict displays, built-in functions, what loops walk. -/
namespace Snd
open PySem PySem.Spec PyProof.Rows L2
open Mini (D Sl T Fl Cfg evE evEs evC evKs)
section
variable {fad : Nat → Addr} {P : Mini.Prog} {d : Nat}
theorem codes_mk (x : Str) : (⟨(codes x).toArray⟩ : Str) = x := mk_codes x
/-- the value of a pair, good by itself -/
def pairV : T → T
  | .pair _ v => v
  | t => t
theorem good_cons {a r : T} (ga : Good fad P d a) (gv : Good fad P d (pairV a)) (gr : Good fad P d r) : Good fad P d (.cons a r) := by
  refine ⟨fun {X c sc it bw ex} _ _ _ h => (by cases ex <;> exact nomatch (show false = true from h)), (fun _ _ h => nomatch h), (fun _ _ h => nomatch h), (fun _ _ h => nomatch h), (fun _ _ _ h => nomatch (show false = true from h)), (fun {X c sc it ex} _ _ _ h => by cases ex <;> exact nomatch (show false = true from h)), fun {X c sc bw exs} A S h => ?_, fun {X c sc kws} A S h => ?_, fun {X c sc pos ks vs} A S h => ?_⟩
  · cases exs with
    | nil => exact nomatch (show false = true from h)
    | cons e es =>
      have h : (mE c sc false bw a e && mEs c sc bw r es) = true := h
      rw [Bool.and_eq_true] at h
      rw [es_cons]
      have pe := ga.ge A S (notIt h.1) h.1
      exact pa_consF (by cases bw <;> exact pe) (gr.gs A S h.2) (mE_star h.1)
  · cases kws with
    | nil => exact nomatch (show false = true from h)
    | cons k kws =>
      obtain ⟨nm, e, kp⟩ := k
      have h : (mE c sc false false a e && mEs c sc false r (kws.map (·.value))) = true := h
      rw [Bool.and_eq_true] at h
      rw [es_cons]
      exact pk_consF (ga.ge A S (notIt h.1) h.1) (gr.gk A S h.2)
  · obtain ⟨k, v, x, j, p, ks', e, es, rfl, rfl, rfl, rfl, h1, h2⟩ := pairInv h
    obtain ⟨p1, p2, p3, p4, p5⟩ := gr.gp (pos := pos) A S h2
    have pv := (show Good fad P d v from gv).ge A S (notIt h1) h1
    refine ⟨?_, ?_, ?_, ?_, ?_⟩
    · show PPs X pos _ _ ((tC (.str ⟨(codes x).toArray⟩), tF X.K fad .val (evE ⟨P.consts, Mini.callP P d⟩ false v)) :: ksT X.K fad (ksOf ⟨P.consts, Mini.callP P d⟩ r))
      rw [codes_mk]
      exact pps_cons pe_str pv p1
    · funext env st
      simp only [evKs, ksOf, ksF, p2, codes_mk]
    · rw [List.all_cons, p3]; rfl
    · rw [List.length_cons, List.length_cons, p4]
    · show _ = (ksOf ⟨P.consts, Mini.callP P d⟩ r).length + 1
      rw [List.length_cons, p5]
theorem ksOf_keys {C : Cfg} (t : T) : (ksOf C t).map (·.1) = (keysOf t).map fun k => (⟨k.toArray⟩ : Str) := by
  induction t with
  | cons a r _ ih =>
    unfold ksOf keysOf
    split
    · rename_i h
      cases h
      rw [List.map_cons, List.map_cons, ih]
    · rename_i h
      first
        | rfl
        | (split
           · rename_i h2
             cases h2
             exact absurd rfl (h _ _ _)
           · rfl)
  | _ => rfl
theorem good_dsp {as : T} (ga : Good fad P d as) : Good fad P d (.dsp as) := by
  have inv : ∀ {c : Mc} {sc : Scope} {it bw : Bool} {ex : Expr}, mE c sc it bw (.dsp as) ex = true → (as = .nil ∧ ∃ p, ex = .Dict [] [] p) ∨ ∃ a r ks vs p, as = .cons a r ∧ ex = .Dict ks vs p ∧ ks ≠ [] ∧ ks.length ≤ 15 ∧ (keysOf as).Nodup ∧ mPs c sc as ks vs = true := fun {c sc it bw ex} h => by
    match as, ex, h with
    | .nil, .Dict [] [] p, _ => exact .inl ⟨rfl, p, rfl⟩
    | .cons a r, .Dict ks vs p, h =>
      have h' : (!ks.isEmpty && decide (ks.length ≤ 15) && decide (keysOf (.cons a r)).Nodup && mPs c sc (.cons a r) ks vs) = true := h
      simp only [Bool.and_eq_true, decide_eq_true_eq, Bool.not_eq_true'] at h'
      obtain ⟨⟨⟨h1, h2⟩, h3⟩, h4⟩ := h'
      exact .inr ⟨a, r, ks, vs, p, rfl, rfl, (fun z => by rw [z] at h1; cases h1), h2, h3, h4⟩
  have nf : ∀ {X : Cx} {c : Mc} {sc : Scope} {it bw : Bool} {ex : Expr}, At X fad P d c sc → SpOk X fad → isFr (.dsp as) = true → mE c sc it bw (.dsp as) ex = true → PE X ex (tFr X fad (evE ⟨P.consts, Mini.callP P d⟩ bw (.dsp as))) := fun {X c sc it bw ex} A S f h => by
    rcases inv h with ⟨rfl, p, rfl⟩ | ⟨a, r, ks, vs, p, rfl, rfl, _⟩
    · rw [ev_dsp0]; exact pe_dnewF
    · cases f
  refine Good.plain rfl rfl (fun c sc bw es => by cases es <;> rfl) (fun c sc ks vs => by cases ks <;> cases vs <;> rfl) (fun h => ?_) (fun {X c sc it bw ex} A S h => ?_) nf
  · rcases inv h with ⟨_, _, rfl⟩ | ⟨_, _, _, _, _, _, rfl, _⟩ <;> exact ⟨(fun _ _ _ z => nomatch z), fun _ _ => rfl⟩
  · rcases inv h with ⟨rfl, p, rfl⟩ | ⟨a, r, ks, vs, p, rfl, rfl, h1, h2, h3, h4⟩
    · rw [ev_dsp0]
      exact (pe_dnewF (X := X) (fad := fad) (pos := p)).imp fun σ H Q h => tFr_of (fun env st d st' e => by cases e; rfl) h
    · obtain ⟨p1, p2, p3, p4, p5⟩ := ga.gp (pos := p) A S h4
      rw [ev_dsp, p2]
      refine pe_dspF kd_bv p1 p3 p4 h1 (by rw [← p5]; exact h2) p5 ?_
      rw [ksOf_keys]
      rw [List.nodup_iff_pairwise_ne, List.pairwise_map]
      exact List.Pairwise.imp (fun h z => h (mkStr_inj z)) h3
theorem biInv {c : Mc} {sc : Scope} {it bw : Bool} {o : Mini.Bi} {as : T} {ex : Expr} (h : mE c sc it bw (.bi o as) ex = true) :
    ∃ a r x q e es p, as = .cons a r ∧ ex = .Call (.Name x q) (e :: es) [] p ∧ btC c sc x = true ∧ biC c sc o a r x es (mE c sc false true a e) (mE c sc true true a e) (mEs c sc true r es) = true := by
  match as, ex, h with
  | .cons a r, .Call (.Name x q) (e :: es) [] p, h =>
    have h' : (btC c sc x && biC c sc o a r x es (mE c sc false true a e) (mE c sc true true a e) (mEs c sc true r es)) = true := h
    rw [Bool.and_eq_true] at h'
    exact ⟨a, r, x, q, e, es, p, rfl, rfl, h'.1, h'.2⟩
theorem biCInv {c : Mc} {sc : Scope} {o : Mini.Bi} {a r : T} {x : Str} {es : List Expr} {m1 m2 m3 : Bool} (h : biC c sc o a r x es m1 m2 m3 = true) :
    (∃ n y yp, r = .nil ∧ es = [.Name y yp] ∧ isN o = some n ∧ x = "isinstance" ∧ btC c sc y = true ∧ bootBuiltins y = some (.type n) ∧ m1 = true) ∨
    (bnOf o = some x ∧ isRng a = true ∧ r = .nil ∧ es = [] ∧ (o = .tuple ∨ o = .list) ∧ m2 = true) ∨ (bnOf o = some x ∧ m1 = true ∧ m3 = true) := by
  unfold biC at h
  split at h
  · rename_i n hn
    simp only [Bool.and_eq_true, decide_eq_true_eq] at h
    exact .inl ⟨_, _, _, rfl, rfl, hn, h.1.1.1, h.1.1.2, h.1.2, h.2⟩
  · rw [Bool.and_eq_true, decide_eq_true_eq] at h
    obtain ⟨h1, h⟩ := h
    split at h
    · rename_i hr _
      simp only [Bool.and_eq_true, Bool.or_eq_true, beq_iff_eq] at h
      exact .inr (.inl ⟨h1, hr, rfl, rfl, h.1, h.2⟩)
    · rw [Bool.and_eq_true] at h
      exact .inr (.inr ⟨h1, h⟩)
end
end Snd
end

section
set_option autoImplicit false
set_option Elab.async false
set_option linter.all false
set_option maxRecDepth 100000
set_option maxHeartbeats 4000000
/-! Snd32: the goodness of each tree: built-in functions, comprehensions; the theorem. -/
namespace Snd
open PySem PySem.Spec PyProof.Rows L2
open Mini (D Sl T Fl Cfg evE evEs evC evKs)
section
variable {fad : Nat → Addr} {P : Mini.Prog} {d : Nat}
theorem es_one {C : Cfg} {a : T} : evEs C true (.cons a .nil) = fun env st => (evE C true a env st).bind fun (x, s1) => some ([x], s1) := by
  funext env st
  simp only [evEs]
  rfl
theorem one_bi {o : Mini.Bi} {f : EvF} : (fun (env : Mini.Env) (st : Mini.St) => ((f env st).bind fun (x, s1) => some ([x], s1)).bind fun (xs, s1) => (Mini.biD o xs).map (·, s1)) = fun env st => (f env st).bind fun (x, s1) => (Mini.biD o [x]).map (·, s1) := by
  funext env st
  cases f env st <;> rfl
theorem bi_own {o : Mini.Bi} (hf : o = .list ∨ o = .sorted) {xs : List D} {r : D} (h : Mini.biD o xs = some r) : Mini.ownable r = true := by
  rcases hf with rfl | rfl
  · unfold Mini.biD at h
    split at h <;> first | (cases h; done) | skip
    all_goals first | (rename_i z; cases z; done) | skip
    all_goals (cases h; rfl)
  · unfold Mini.biD at h
    split at h <;> first | (cases h; done) | skip
    all_goals first | (rename_i z; cases z; done) | skip
    obtain ⟨ys, _, h⟩ := Option.bind_eq_some_iff.mp h
    obtain ⟨_, h⟩ := ite_some h
    cases h; rfl
theorem good_bi (o : Mini.Bi) {a r : T} (ga : Good fad P d a) (gr : Good fad P d r) (gc : Good fad P d (.cons a r)) : Good fad P d (.bi o (.cons a r)) := by
  have shp : ∀ {c : Mc} {sc : Scope} {it bw : Bool} {ex : Expr}, mE c sc it bw (.bi o (.cons a r)) ex = true → ∃ f as p, ex = .Call f as [] p := fun {c sc it bw ex} h => by
    obtain ⟨_, _, _, _, _, _, _, _, rfl, _⟩ := biInv h
    exact ⟨_, _, _, rfl⟩
  refine Good.plain rfl rfl (fun c sc bw es => by cases es <;> rfl) (fun c sc ks vs => by cases ks <;> cases vs <;> rfl) (fun h => ?_) (fun {X c sc it bw ex} A S h => ?_) (fun {X c sc it bw ex} A S f h => ?_)
  · obtain ⟨_, _, _, rfl⟩ := shp h
    exact ⟨(fun _ _ _ z => nomatch z), fun _ _ => rfl⟩
  · obtain ⟨a', r', x, q, e, es, p, ea, rfl, hb, hc⟩ := biInv h
    cases ea
    rcases biCInv hc with ⟨n, y, yp, rfl, rfl, hn, rfl, hy, hv, m1⟩ | ⟨ho, hr, rfl, rfl, hol, m2⟩ | ⟨ho, m1, m3⟩
    · obtain ⟨g1, g2, _, _⟩ := A.btn hb
      obtain ⟨k1, k2, k3, k4⟩ := A.btn hy
      rw [ev_bi, es_one, one_bi]
      exact pe_isiF g1 g2 k1 k2 hv k3 k4 hn (ga.ge A S (notIt m1) m1) (mE_star m1)
    · obtain ⟨g1, g2, _, _⟩ := A.btn hb
      have rg := ga.gr (bw := true) A S hr m2
      rw [ev_bi, es_one, one_bi]
      rcases hol with rfl | rfl
      · cases ho
        exact pe_tupRgF A.calm g1 g2 rg (mE_star m2)
      · cases ho
        exact pe_listRgF A.calm g1 g2 rg (mE_star m2)
    · have m4 : mEs c sc true (.cons a r) (e :: es) = true := by
        show (mE c sc false true a e && mEs c sc true r es) = true
        rw [m1, m3]; rfl
      rw [ev_bi]
      exact (bi_pe A S ho hb (gc.gs A S m4) (mEs_star m4)).imp fun σ H Q h => tBi_F (t := tNil) h
  · obtain ⟨a', r', x, q, e, es, p, ea, rfl, hb, hc⟩ := biInv h
    cases ea
    rcases biCInv hc with ⟨n, y, yp, rfl, rfl, hn, rfl, hy, hv, m1⟩ | ⟨ho, hr, rfl, rfl, hol, m2⟩ | ⟨ho, m1, m3⟩
    · cases o <;> first | (cases hn; done) | (cases f; done)
    · obtain ⟨g1, g2, _, _⟩ := A.btn hb
      have rg := ga.gr (bw := true) A S hr m2
      rw [ev_bi, es_one, one_bi]
      rcases hol with rfl | rfl
      · cases f
      · cases ho
        exact pe_listRgFr A.calm g1 g2 rg (mE_star m2)
    · have m4 : mEs c sc true (.cons a r) (e :: es) = true := by
        show (mE c sc false true a e && mEs c sc true r es) = true
        rw [m1, m3]; rfl
      rw [ev_bi]
      exact (bi_pe A S ho hb (gc.gs A S m4) (mEs_star m4)).imp fun σ H Q h => tBi_Fr (t := tNil) h
theorem sortS_own {o : Mini.Bi} (hf : o = .sortedSet ∨ o = .sortedLenRev) {xs : List D} {r : D} (h : Mini.biD o xs = some r) : Mini.ownable r = true := by
  rcases hf with rfl | rfl
  · unfold Mini.biD at h
    split at h <;> first | (cases h; done) | skip
    all_goals first | (rename_i z; cases z; done) | skip
    obtain ⟨_, h⟩ := ite_some h
    cases h; rfl
  · unfold Mini.biD at h
    split at h <;> first | (cases h; done) | skip
    all_goals first | (rename_i z; cases z; done) | skip
    obtain ⟨ys, _, h⟩ := Option.bind_eq_some_iff.mp h
    obtain ⟨_, h⟩ := ite_some h
    cases h; rfl
theorem good_srtS {a : T} (ga : Good fad P d a) : Good fad P d (.srtS a) := by
  have inv : ∀ {c : Mc} {sc : Scope} {it bw : Bool} {ex : Expr}, mE c sc it bw (.srtS a) ex = true → ∃ p q e p1 p2, ex = .Call (.Name "sorted" p) [.Call (.Name "set" q) [e] [] p1] [] p2 ∧ btC c sc "sorted" = true ∧ btC c sc "set" = true ∧ mE c sc false true a e = true := fun {c sc it bw ex} h => by
    match ex, h with
    | .Call (.Name x p) [.Call (.Name y q) [e] [] p1] [] p2, h =>
      have h' : (btC c sc x && btC c sc y && decide (x = "sorted") && decide (y = "set") && mE c sc false true a e) = true := h
      simp only [Bool.and_eq_true, decide_eq_true_eq] at h'
      obtain ⟨⟨⟨⟨h1, h2⟩, rfl⟩, rfl⟩, h3⟩ := h'
      exact ⟨p, q, e, p1, p2, rfl, h1, h2, h3⟩
  have fr : ∀ {X : Cx} {c : Mc} {sc : Scope} {it bw : Bool} {ex : Expr}, At X fad P d c sc → SpOk X fad → mE c sc it bw (.srtS a) ex = true → PE X ex (tFr X fad (evE ⟨P.consts, Mini.callP P d⟩ bw (.srtS a))) := fun {X c sc it bw ex} A S h => by
    obtain ⟨p, q, e, p1, p2, rfl, h1, h2, h3⟩ := inv h
    obtain ⟨g1, g2, _, _⟩ := A.btn h1
    obtain ⟨k1, k2, _, _⟩ := A.btn h2
    rw [ev_srtS]
    exact S.set g1 g2 k1 k2 (ga.ge A S (notIt h3) h3) (mE_star h3)
  refine Good.plain rfl rfl (fun c sc bw es => by cases es <;> rfl) (fun c sc ks vs => by cases ks <;> cases vs <;> rfl) (fun h => ?_) (fun {X c sc it bw ex} A S h => ?_) (fun A S f h => fr A S h)
  · obtain ⟨_, _, _, _, _, rfl, _⟩ := inv h
    exact ⟨(fun _ _ _ z => nomatch z), fun _ _ => rfl⟩
  · refine (fr A S h).imp fun σ H Q q => tFr_of (fun env st d' st' e => ?_) q
    rw [ev_srtS] at e
    obtain ⟨⟨y, s⟩, e1, e⟩ := Option.bind_eq_some_iff.mp e
    obtain ⟨z, e2, e⟩ := Option.map_eq_some_iff.mp e
    cases e
    exact sortS_own (.inl rfl) e2
theorem good_srtL {a : T} (ga : Good fad P d a) : Good fad P d (.srtL a) := by
  have inv : ∀ {c : Mc} {sc : Scope} {it bw : Bool} {ex : Expr}, mE c sc it bw (.srtL a) ex = true → ∃ p q e j p1 p2 p3 p4, ex = .Call (.Name "sorted" p) [e] [⟨some "key", .Name "len" q, p1⟩, ⟨some "reverse", .Constant (.bool true) j p3, p4⟩] p2 ∧ btC c sc "sorted" = true ∧ btC c sc "len" = true ∧ mE c sc false true a e = true := fun {c sc it bw ex} h => by
    match ex, h with
    | .Call (.Name x p) [e] [⟨some k1, .Name y q, p1⟩, ⟨some k2, .Constant (.bool true) j p3, p4⟩] p2, h =>
      have h' : (btC c sc x && btC c sc y && decide (x = "sorted") && decide (y = "len") && decide (k1 = "key") && decide (k2 = "reverse") && mE c sc false true a e) = true := h
      simp only [Bool.and_eq_true, decide_eq_true_eq] at h'
      obtain ⟨⟨⟨⟨⟨⟨h1, h2⟩, rfl⟩, rfl⟩, rfl⟩, rfl⟩, h3⟩ := h'
      exact ⟨p, q, e, j, p1, p2, p3, p4, rfl, h1, h2, h3⟩
  have fr : ∀ {X : Cx} {c : Mc} {sc : Scope} {it bw : Bool} {ex : Expr}, At X fad P d c sc → SpOk X fad → mE c sc it bw (.srtL a) ex = true → PE X ex (tFr X fad (evE ⟨P.consts, Mini.callP P d⟩ bw (.srtL a))) := fun {X c sc it bw ex} A S h => by
    obtain ⟨p, q, e, j, p1, p2, p3, p4, rfl, h1, h2, h3⟩ := inv h
    obtain ⟨g1, g2, _, _⟩ := A.btn h1
    obtain ⟨k1, k2, _, _⟩ := A.btn h2
    rw [ev_srtL]
    exact S.len g1 g2 k1 k2 (ga.ge A S (notIt h3) h3) (mE_star h3)
  refine Good.plain rfl rfl (fun c sc bw es => by cases es <;> rfl) (fun c sc ks vs => by cases ks <;> cases vs <;> rfl) (fun h => ?_) (fun {X c sc it bw ex} A S h => ?_) (fun A S f h => fr A S h)
  · obtain ⟨_, _, _, _, _, _, _, _, rfl, _⟩ := inv h
    exact ⟨(fun _ _ _ z => nomatch z), fun _ _ => rfl⟩
  · refine (fr A S h).imp fun σ H Q q => tFr_of (fun env st d' st' e => ?_) q
    rw [ev_srtL] at e
    obtain ⟨⟨y, s⟩, e1, e⟩ := Option.bind_eq_some_iff.mp e
    obtain ⟨z, e2, e⟩ := Option.map_eq_some_iff.mp e
    cases e
    exact sortS_own (.inr rfl) e2
/-- what loops alone walk -/
theorem Good.loop {t : T} (hi : isIt t = true) (hf : isFr t = false) (h1 : ∀ c sc bw es, mEs c sc bw t es = false) (h3 : ∀ c sc ks vs, mPs c sc t ks vs = false)
    (gi : ∀ {X : Cx} {c : Mc} {sc : Scope} {bw : Bool} {tg ex : Expr}, At X fad P d c sc → SpOk X fad → mE c sc true bw t ex = true → (isPair t = true → isTup tg = true) → PI X tg ex (tFI X.K fad bw (evE ⟨P.consts, Mini.callP P d⟩ bw t)))
    (gr : ∀ {X : Cx} {c : Mc} {sc : Scope} {bw : Bool} {ex : Expr}, At X fad P d c sc → SpOk X fad → isRng t = true → mE c sc true bw t ex = true → RgF X fad ex (evE ⟨P.consts, Mini.callP P d⟩ bw t)) : Good fad P d t :=
  ⟨(fun _ _ h => by rw [hi] at h; cases h), fun A S _ h hp => gi A S h hp, fun A S hr h => gr A S hr h, (fun _ _ h => by rw [hf] at h; cases h), (fun _ _ h => by rw [hi] at h; cases h), (fun _ _ h => by rw [hi] at h; cases h), (fun _ _ h => by rw [h1] at h; cases h), (fun _ _ h => by rw [h1] at h; cases h), (fun _ _ h => by rw [h3] at h; cases h)⟩
theorem good_rng1 {a : T} (ga : Good fad P d a) : Good fad P d (.rng1 a) := by
  have inv : ∀ {c : Mc} {sc : Scope} {it bw : Bool} {ex : Expr}, mE c sc it bw (.rng1 a) ex = true → ∃ q e p, ex = .Call (.Name "range" q) [e] [] p ∧ btC c sc "range" = true ∧ mE c sc false true a e = true := fun {c sc it bw ex} h => by
    match ex, h with
    | .Call (.Name x q) [e] [] p, h =>
      have h' : (it && btC c sc x && decide (x = "range") && mE c sc false true a e) = true := h
      simp only [Bool.and_eq_true, decide_eq_true_eq] at h'
      obtain ⟨⟨⟨_, h1⟩, rfl⟩, h3⟩ := h'
      exact ⟨q, e, p, rfl, h1, h3⟩
  refine Good.loop rfl rfl (fun c sc bw es => by cases es <;> rfl) (fun c sc ks vs => by cases ks <;> cases vs <;> rfl) (fun {X c sc bw tg ex} A S h hp => ?_) (fun {X c sc bw ex} A S hr h => ?_)
  · obtain ⟨q, e, p, rfl, h1, h3⟩ := inv h
    obtain ⟨g1, g2, _, _⟩ := A.btn h1
    rw [ev_rng1]
    exact pi_rng1F g1 g2 (ga.ge A S (notIt h3) h3) (mE_star h3)
  · obtain ⟨q, e, p, rfl, h1, h3⟩ := inv h
    obtain ⟨g1, g2, _, _⟩ := A.btn h1
    rw [ev_rng1]
    exact rgF1 g1 g2 (ga.ge A S (notIt h3) h3) (mE_star h3)
theorem good_rng2 {a b : T} (ga : Good fad P d a) (gb : Good fad P d b) : Good fad P d (.rng2 a b) := by
  have inv : ∀ {c : Mc} {sc : Scope} {it bw : Bool} {ex : Expr}, mE c sc it bw (.rng2 a b) ex = true → ∃ q e e2 p, ex = .Call (.Name "range" q) [e, e2] [] p ∧ btC c sc "range" = true ∧ mE c sc false true a e = true ∧ mE c sc false true b e2 = true := fun {c sc it bw ex} h => by
    match ex, h with
    | .Call (.Name x q) [e, e2] [] p, h =>
      have h' : (it && btC c sc x && decide (x = "range") && mE c sc false true a e && mE c sc false true b e2) = true := h
      simp only [Bool.and_eq_true, decide_eq_true_eq] at h'
      obtain ⟨⟨⟨⟨_, h1⟩, rfl⟩, h3⟩, h4⟩ := h'
      exact ⟨q, e, e2, p, rfl, h1, h3, h4⟩
  refine Good.loop rfl rfl (fun c sc bw es => by cases es <;> rfl) (fun c sc ks vs => by cases ks <;> cases vs <;> rfl) (fun {X c sc bw tg ex} A S h hp => ?_) (fun {X c sc bw ex} A S hr h => ?_)
  · obtain ⟨q, e, e2, p, rfl, h1, h3, h4⟩ := inv h
    obtain ⟨g1, g2, _, _⟩ := A.btn h1
    rw [ev_rng2]
    exact pi_rng2F g1 g2 (ga.ge A S (notIt h3) h3) (gb.ge A S (notIt h4) h4) (mE_star h3) (mE_star h4)
  · obtain ⟨q, e, e2, p, rfl, h1, h3, h4⟩ := inv h
    obtain ⟨g1, g2, _, _⟩ := A.btn h1
    rw [ev_rng2]
    exact rgF2 g1 g2 (ga.ge A S (notIt h3) h3) (gb.ge A S (notIt h4) h4) (mE_star h3) (mE_star h4)
theorem tupOf {tg : Expr} (h : isTup tg = true) : ∃ es k p, tg = .Tuple es k p := by
  match tg, h with
  | .Tuple es k p, _ => exact ⟨es, k, p, rfl⟩
theorem good_enm {a : T} (ga : Good fad P d a) : Good fad P d (.enm a) := by
  refine Good.loop rfl rfl (fun c sc bw es => by cases es <;> rfl) (fun c sc ks vs => by cases ks <;> cases vs <;> rfl) (fun {X c sc bw tg ex} A S h hp => ?_) (fun A S hr h => nomatch hr)
  match ex, h with
  | .Call (.Name x q) [e] [] p, h =>
    have h' : (true && btC c sc x && decide (x = "enumerate") && mE c sc false bw a e) = true := h
    simp only [Bool.and_eq_true, decide_eq_true_eq] at h'
    obtain ⟨⟨⟨_, h1⟩, rfl⟩, h3⟩ := h'
    obtain ⟨g1, g2, _, _⟩ := A.btn h1
    obtain ⟨es, k, tp, rfl⟩ := tupOf (hp rfl)
    rw [ev_enm]
    exact pi_enmF g1 g2 (ga.ge A S (notIt h3) h3) (mE_star h3)
theorem good_zip {a b : T} (ga : Good fad P d a) (gb : Good fad P d b) : Good fad P d (.zip a b) := by
  refine Good.loop rfl rfl (fun c sc bw es => by cases es <;> rfl) (fun c sc ks vs => by cases ks <;> cases vs <;> rfl) (fun {X c sc bw tg ex} A S h hp => ?_) (fun A S hr h => nomatch hr)
  match ex, h with
  | .Call (.Name x q) [e, e2] [] p, h =>
    have h' : (true && btC c sc x && decide (x = "zip") && mE c sc false bw a e && mE c sc false bw b e2) = true := h
    simp only [Bool.and_eq_true, decide_eq_true_eq] at h'
    obtain ⟨⟨⟨⟨_, h1⟩, rfl⟩, h3⟩, h4⟩ := h'
    obtain ⟨g1, g2, _, _⟩ := A.btn h1
    obtain ⟨es, k, tp, rfl⟩ := tupOf (hp rfl)
    rw [ev_zip]
    exact pi_zipF g1 g2 (ga.ge A S (notIt h3) h3) (gb.ge A S (notIt h4) h4) (mE_star h3) (mE_star h4)
end
end Snd
end

section
set_option autoImplicit false
set_option Elab.async false
set_option linter.all false
set_option maxRecDepth 100000
set_option maxHeartbeats 4000000
/-! Snd33: comprehensions; every tree is good. -/
namespace Snd
open PySem PySem.Spec PyProof.Rows L2
open Mini (D Sl T Fl Cfg evE evEs evC evKs)
section
variable {fad : Nat → Addr} {P : Mini.Prog} {d : Nat}
/-- tests of a comprehension -/
theorem pts_ok {X : Cx} {c : Mc} {sc : Scope} {cs : T} {ifs : List Expr} (hg : ∀ a, cs = .cons a .nil → Good fad P d a) (A : At X fad P d c sc) (S : SpOk X fad) (hl : ifs.length ≤ 1) (h : mEs c sc true cs ifs = true) : PTs X ifs (tFC X fad (evC ⟨P.consts, Mini.callP P d⟩ cs)) := by
  match cs, ifs, h, hl with
  | .nil, [], _, _ => rw [ec_nil]; exact pts_nilF
  | .cons a r, [e], h, _ =>
    have h : (mE c sc false true a e && mEs c sc true r []) = true := h
    rw [Bool.and_eq_true] at h
    have er : r = .nil := by
      cases r <;> first | rfl | exact nomatch (show false = true from h.2)
    subst er
    rw [ec_one]
    exact pts_oneF ((hg a rfl).gt A S (notIt h.1) h.1)
theorem blk_fn {X : Cx} {s : Shared} {H : Hp} {scope : Scope} {cl : List (Str × Addr)} {C : Addr} {fp : List Addr} : ∀ x, (∀ s', some scope = some s' → s'.names.lookup x = some .cell) → (X.blk s H scope (compEnvC scope cl C X.env) fp).fn x = true := fun x h => by
  show (scope.names.lookup x == some .cell) = true
  rw [h scope rfl]; rfl
theorem pg_blk {X : Cx} {s : Shared} {H : Hp} {scope : Scope} {ce : Env} {fp : List Addr} {e : Expr} {t : T} (h : PG (X.blk s H scope ce fp) e (tFG (X.blk s H scope ce fp) fad t)) : PG (X.blk s H scope ce fp) e (tFG X fad t) := by
  refine h.imp fun v σ G Q h => ?_
  obtain ⟨Av, ρ, env, st, dd, env', ev, r, e, q⟩ := h
  exact ⟨Av, ρ, env, st, dd, env', ev, r, e, fun σ' a => q σ' ⟨a.ev, a.len, a.out, a.ow⟩⟩
theorem lc_own {own : List Nat} {tg : T} {f fe : EvF} {fc : Mini.Env → Mini.St → Option (Bool × Mini.St)} : ∀ env st d st', lcF own tg f fc fe env st = some (d, st') → Mini.ownable d = true := fun env st d st' e => by
  obtain ⟨⟨y, s⟩, e1, e⟩ := Option.bind_eq_some_iff.mp e
  obtain ⟨xs, e2, e⟩ := Option.bind_eq_some_iff.mp e
  obtain ⟨⟨zs, s2⟩, e3, e⟩ := Option.bind_eq_some_iff.mp e
  obtain ⟨_, e⟩ := ite_some e
  cases e; rfl
theorem lc2_own {own vs1 : List Nat} {tg tg1 : T} {f f1 fe : EvF} {fc fc1 : Mini.Env → Mini.St → Option (Bool × Mini.St)} : ∀ env st d st', lc2F own vs1 tg tg1 f f1 fc fc1 fe env st = some (d, st') → Mini.ownable d = true := fun env st d st' e => by
  obtain ⟨⟨y, s⟩, e1, e⟩ := Option.bind_eq_some_iff.mp e
  obtain ⟨xs, e2, e⟩ := Option.bind_eq_some_iff.mp e
  obtain ⟨⟨zs, s2⟩, e3, e⟩ := Option.bind_eq_some_iff.mp e
  obtain ⟨_, e⟩ := ite_some e
  cases e; rfl
theorem dc_own {own : List Nat} {tg : T} {f fk fv : EvF} {fc : Mini.Env → Mini.St → Option (Bool × Mini.St)} : ∀ env st d st', dcF own tg f fc fk fv env st = some (d, st') → Mini.ownable d = true := fun env st d st' e => by
  obtain ⟨⟨y, s⟩, e1, e⟩ := Option.bind_eq_some_iff.mp e
  obtain ⟨xs, e2, e⟩ := Option.bind_eq_some_iff.mp e
  obtain ⟨⟨zs, s2⟩, e3, e⟩ := Option.bind_eq_some_iff.mp e
  obtain ⟨_, e⟩ := ite_some e
  cases e; rfl
theorem sub_own {tg : T} {own : List Nat} (h : (tgIx tg).all own.contains = true) : ∀ i ∈ tgIx tg, i ∈ own := fun i hi => by
  have := List.all_eq_true.mp h i hi
  simpa using this
theorem good_lc (own : List Nat) {e tg i cs : T} (ge : Good fad P d e) (gi : Good fad P d i) (gc : ∀ a, cs = .cons a .nil → Good fad P d a) (SB : ∀ {X : Cx} {c : Mc} {sc : Scope}, At X fad P d c sc → SpOk X fad) : Good fad P d (.lc own e tg i cs) := by
  have inv : ∀ {c : Mc} {sc : Scope} {it bw : Bool} {ex : Expr}, mE c sc it bw (.lc own e tg i cs) ex = true → ∃ ee et ei ifs scope p, ex = .ListComp ee [⟨et, ei, ifs, 0⟩] scope p ∧ noSet ei = true ∧ (isPair i = true → isTup et = true) ∧ blkC c.N sc scope (ownC c.N own) = true ∧ (ownC c.N own).map (·.2) = own ∧ mE c sc true true i ei = true ∧ tgC c (relS scope sc) (some scope) tg et = true ∧ ifs.length ≤ 1 ∧ mEs c (relS scope sc) true cs ifs = true ∧ mE c (relS scope sc) false false e ee = true ∧ (tgIx tg).all own.contains = true := fun {c sc it bw ex} h => by
    match ex, h with
    | .ListComp ee [⟨et, ei, ifs, 0⟩] scope p, h =>
      have h' : (noSet ei && (!isPair i || isTup et) && blkC c.N sc scope (ownC c.N own) && decide ((ownC c.N own).map (·.2) = own) && mE c sc true true i ei && tgC c (relS scope sc) (some scope) tg et && decide (ifs.length ≤ 1) && mEs c (relS scope sc) true cs ifs &&
        mE c (relS scope sc) false false e ee && (tgIx tg).all own.contains) = true := h
      simp only [Bool.and_eq_true, decide_eq_true_eq, Bool.or_eq_true, Bool.not_eq_true'] at h'
      obtain ⟨⟨⟨⟨⟨⟨⟨⟨⟨h1, h2⟩, h3⟩, h4⟩, h5⟩, h6⟩, h7⟩, h8⟩, h9⟩, h10⟩ := h'
      exact ⟨ee, et, ei, ifs, scope, p, rfl, h1, (fun z => h2.elim (fun q => by rw [z] at q; cases q) id), h3, h4, h5, h6, h7, h8, h9, h10⟩
  have fr : ∀ {X : Cx} {c : Mc} {sc : Scope} {it bw : Bool} {ex : Expr}, At X fad P d c sc → SpOk X fad → mE c sc it bw (.lc own e tg i cs) ex = true → PE X ex (tFr X fad (evE ⟨P.consts, Mini.callP P d⟩ bw (.lc own e tg i cs))) := fun {X c sc it bw ex} A S h => by
    obtain ⟨ee, et, ei, ifs, scope, p, rfl, h1, h2, h3, h4, h5, h6, h7, h8, h9, h10⟩ := inv h
    rw [ev_lc, ← h4]
    have ok : BlkOk X.N X.env.scope scope (ownC c.N own) := by rw [A.N, A.sc]; exact blk_ok h3
    refine pe_lcF A.calm A.nd (gi.it A S h5 h2) ok (fun s H C cl fp => ?_) (fun s H C cl fp => ?_) (fun s H C cl fp => ?_) (by rw [h4]; exact sub_own h10) (noSetIt h1)
    · exact pg_blk ((tg_ok (A.blk s H scope cl C fp) blk_fn tg).1 et h6).1
    · exact pts_ok gc (A.blk s H scope cl C fp) (SB (A.blk s H scope cl C fp)) h7 h8
    · exact ge.ge (A.blk s H scope cl C fp) (SB (A.blk s H scope cl C fp)) (notIt h9) h9
  refine Good.plain rfl rfl (fun c sc bw es => by cases es <;> rfl) (fun c sc ks vs => by cases ks <;> cases vs <;> rfl) (fun h => ?_) (fun {X c sc it bw ex} A S h => ?_) (fun A S f h => fr A S h)
  · obtain ⟨_, _, _, _, _, _, rfl, _⟩ := inv h
    exact ⟨(fun _ _ _ z => nomatch z), fun _ _ => rfl⟩
  · refine (fr A S h).imp fun σ H Q q => tFr_of (fun env st d' st' e' => ?_) q
    rw [ev_lc] at e'
    exact lc_own env st d' st' e'
end
end Snd
end

section
set_option autoImplicit false
set_option Elab.async false
set_option linter.all false
set_option maxRecDepth 100000
set_option maxHeartbeats 4000000
/-! Snd34: two fors, dict comprehensions. -/
namespace Snd
open PySem PySem.Spec PyProof.Rows L2
open Mini (D Sl T Fl Cfg evE evEs evC evKs)
section
variable {fad : Nat → Addr} {P : Mini.Prog} {d : Nat}
abbrev SpB (fad : Nat → Addr) (P : Mini.Prog) (d : Nat) : Prop := ∀ {X : Cx} {c : Mc} {sc : Scope}, At X fad P d c sc → SpOk X fad
theorem good_dc (own : List Nat) {k v tg i cs : T} (gk : Good fad P d k) (gv : Good fad P d v) (gi : Good fad P d i) (gc : ∀ a, cs = .cons a .nil → Good fad P d a) (SB : SpB fad P d) : Good fad P d (.dc own k v tg i cs) := by
  have inv : ∀ {c : Mc} {sc : Scope} {it bw : Bool} {ex : Expr}, mE c sc it bw (.dc own k v tg i cs) ex = true → ∃ ek ev et ei ifs scope p, ex = .DictComp ek ev [⟨et, ei, ifs, 0⟩] scope p ∧ noSet ei = true ∧ (isPair i = true → isTup et = true) ∧ blkC c.N sc scope (ownC c.N own) = true ∧ (ownC c.N own).map (·.2) = own ∧ mE c sc true true i ei = true ∧ tgC c (relS scope sc) (some scope) tg et = true ∧ ifs.length ≤ 1 ∧ mEs c (relS scope sc) true cs ifs = true ∧ mE c (relS scope sc) false false k ek = true ∧ mE c (relS scope sc) false false v ev = true ∧ (tgIx tg).all own.contains = true := fun {c sc it bw ex} h => by
    match ex, h with
    | .DictComp ek ev [⟨et, ei, ifs, 0⟩] scope p, h =>
      have h' : (noSet ei && (!isPair i || isTup et) && blkC c.N sc scope (ownC c.N own) && decide ((ownC c.N own).map (·.2) = own) && mE c sc true true i ei && tgC c (relS scope sc) (some scope) tg et && decide (ifs.length ≤ 1) && mEs c (relS scope sc) true cs ifs &&
        mE c (relS scope sc) false false k ek && mE c (relS scope sc) false false v ev && (tgIx tg).all own.contains) = true := h
      simp only [Bool.and_eq_true, decide_eq_true_eq, Bool.or_eq_true, Bool.not_eq_true'] at h'
      obtain ⟨⟨⟨⟨⟨⟨⟨⟨⟨⟨h1, h2⟩, h3⟩, h4⟩, h5⟩, h6⟩, h7⟩, h8⟩, h9⟩, h10⟩, h11⟩ := h'
      exact ⟨ek, ev, et, ei, ifs, scope, p, rfl, h1, (fun z => h2.elim (fun q => by rw [z] at q; cases q) id), h3, h4, h5, h6, h7, h8, h9, h10, h11⟩
  have fr : ∀ {X : Cx} {c : Mc} {sc : Scope} {it bw : Bool} {ex : Expr}, At X fad P d c sc → SpOk X fad → mE c sc it bw (.dc own k v tg i cs) ex = true → PE X ex (tFr X fad (evE ⟨P.consts, Mini.callP P d⟩ bw (.dc own k v tg i cs))) := fun {X c sc it bw ex} A S h => by
    obtain ⟨ek, ev, et, ei, ifs, scope, p, rfl, h1, h2, h3, h4, h5, h6, h7, h8, h9, h10, h11⟩ := inv h
    rw [ev_dc, ← h4]
    have ok : BlkOk X.N X.env.scope scope (ownC c.N own) := by rw [A.N, A.sc]; exact blk_ok h3
    refine pe_dcF A.calm (by have := A.un; omega) A.nd (gi.it A S h5 h2) ok (fun s H C cl fp => ?_) (fun s H C cl fp => ?_) (fun s H C cl fp => ?_) (fun s H C cl fp => ?_) (by rw [h4]; exact sub_own h11) (noSetIt h1)
    · exact pg_blk ((tg_ok (A.blk s H scope cl C fp) blk_fn tg).1 et h6).1
    · exact pts_ok gc (A.blk s H scope cl C fp) (SB (A.blk s H scope cl C fp)) h7 h8
    · exact gk.ge (A.blk s H scope cl C fp) (SB (A.blk s H scope cl C fp)) (notIt h9) h9
    · exact gv.ge (A.blk s H scope cl C fp) (SB (A.blk s H scope cl C fp)) (notIt h10) h10
  refine Good.plain rfl rfl (fun c sc bw es => by cases es <;> rfl) (fun c sc ks vs => by cases ks <;> cases vs <;> rfl) (fun h => ?_) (fun {X c sc it bw ex} A S h => ?_) (fun A S f h => fr A S h)
  · obtain ⟨_, _, _, _, _, _, _, rfl, _⟩ := inv h
    exact ⟨(fun _ _ _ z => nomatch z), fun _ _ => rfl⟩
  · refine (fr A S h).imp fun σ H Q q => tFr_of (fun env st d' st' e' => ?_) q
    rw [ev_dc] at e'
    exact dc_own env st d' st' e'
end
end Snd
end

section
set_option autoImplicit false
set_option Elab.async false
set_option linter.all false
set_option maxRecDepth 100000
set_option maxHeartbeats 4000000
/-! Snd35: two fors. -/
namespace Snd
open PySem PySem.Spec PyProof.Rows L2
open Mini (D Sl T Fl Cfg evE evEs evC evKs)
section
variable {fad : Nat → Addr} {P : Mini.Prog} {d : Nat}
theorem good_lc2 (own vs1 : List Nat) {e tg i cs tg1 i1 cs1 : T} (ge : Good fad P d e) (gi : Good fad P d i) (gc : ∀ a, cs = .cons a .nil → Good fad P d a) (gi1 : Good fad P d i1) (gc1 : ∀ a, cs1 = .cons a .nil → Good fad P d a) (SB : SpB fad P d) : Good fad P d (.lc2 own vs1 e tg i cs tg1 i1 cs1) := by
  have inv : ∀ {c : Mc} {sc : Scope} {it bw : Bool} {ex : Expr}, mE c sc it bw (.lc2 own vs1 e tg i cs tg1 i1 cs1) ex = true → ∃ ee et ei ifs et1 ei1 ifs1 scope p, ex = .ListComp ee [⟨et, ei, ifs, 0⟩, ⟨et1, ei1, ifs1, 0⟩] scope p ∧ noSet ei = true ∧ noSet ei1 = true ∧ (isPair i = true → isTup et = true) ∧ (isPair i1 = true → isTup et1 = true) ∧ blkC c.N sc scope (ownC c.N own) = true ∧ (ownC c.N own).map (·.2) = own ∧ mE c sc true true i ei = true ∧
      tgC c (relS scope sc) (some scope) tg et = true ∧ ifs.length ≤ 1 ∧ mEs c (relS scope sc) true cs ifs = true ∧ mE c (relS scope sc) true false i1 ei1 = true ∧ tgC c (relS scope sc) (some scope) tg1 et1 = true ∧ ifs1.length ≤ 1 ∧ mEs c (relS scope sc) true cs1 ifs1 = true ∧
      mE c (relS scope sc) false false e ee = true ∧ (tgIx tg).all own.contains = true ∧ (tgIx tg1).all vs1.contains = true ∧ vs1.all own.contains = true := fun {c sc it bw ex} h => by
    match ex, h with
    | .ListComp ee [⟨et, ei, ifs, 0⟩, ⟨et1, ei1, ifs1, 0⟩] scope p, h =>
      have h' : (noSet ei && noSet ei1 && (!isPair i || isTup et) && (!isPair i1 || isTup et1) && blkC c.N sc scope (ownC c.N own) && decide ((ownC c.N own).map (·.2) = own) && mE c sc true true i ei &&
        tgC c (relS scope sc) (some scope) tg et && decide (ifs.length ≤ 1) && mEs c (relS scope sc) true cs ifs && mE c (relS scope sc) true false i1 ei1 && tgC c (relS scope sc) (some scope) tg1 et1 && decide (ifs1.length ≤ 1) && mEs c (relS scope sc) true cs1 ifs1 &&
        mE c (relS scope sc) false false e ee && (tgIx tg).all own.contains && (tgIx tg1).all vs1.contains && vs1.all own.contains) = true := h
      simp only [Bool.and_eq_true, decide_eq_true_eq, Bool.or_eq_true, Bool.not_eq_true'] at h'
      obtain ⟨⟨⟨⟨⟨⟨⟨⟨⟨⟨⟨⟨⟨⟨⟨⟨⟨h1, h1'⟩, h2⟩, h2'⟩, h3⟩, h4⟩, h5⟩, h6⟩, h7⟩, h8⟩, k1⟩, k2⟩, k3⟩, k4⟩, h9⟩, h10⟩, k5⟩, k6⟩ := h'
      exact ⟨ee, et, ei, ifs, et1, ei1, ifs1, scope, p, rfl, h1, h1', (fun z => h2.elim (fun q => by rw [z] at q; cases q) id), (fun z => h2'.elim (fun q => by rw [z] at q; cases q) id), h3, h4, h5, h6, h7, h8, k1, k2, k3, k4, h9, h10, k5, k6⟩
  have fr : ∀ {X : Cx} {c : Mc} {sc : Scope} {it bw : Bool} {ex : Expr}, At X fad P d c sc → SpOk X fad → mE c sc it bw (.lc2 own vs1 e tg i cs tg1 i1 cs1) ex = true → PE X ex (tFr X fad (evE ⟨P.consts, Mini.callP P d⟩ bw (.lc2 own vs1 e tg i cs tg1 i1 cs1))) := fun {X c sc it bw ex} A S h => by
    obtain ⟨ee, et, ei, ifs, et1, ei1, ifs1, scope, p, rfl, h1, h1', h2, h2', h3, h4, h5, h6, h7, h8, k1, k2, k3, k4, h9, h10, k5, k6⟩ := inv h
    rw [ev_lc2, ← h4]
    have ok : BlkOk X.N X.env.scope scope (ownC c.N own) := by rw [A.N, A.sc]; exact blk_ok h3
    have hv : ∀ j ∈ vs1, j ∈ (ownC c.N own).map (·.2) := fun j hj => by
      rw [h4]
      have := List.all_eq_true.mp k6 j hj
      simpa using this
    refine pe_lc2F A.calm A.nd (gi.it A S h5 h2) ok hv (fun s H C cl fp => ?_) (fun s H C cl fp => ?_) (fun s H C cl fp => ?_) (fun s H C cl fp => ?_) (fun s H C cl fp => ?_) (fun s H C cl fp => ?_) (by rw [h4]; exact sub_own h10) (sub_own k5) (noSetIt h1) (noSetIt' h1')
    · exact pg_blk ((tg_ok (A.blk s H scope cl C fp) blk_fn tg).1 et h6).1
    · exact pts_ok gc (A.blk s H scope cl C fp) (SB (A.blk s H scope cl C fp)) h7 h8
    · exact gi1.it (A.blk s H scope cl C fp) (SB (A.blk s H scope cl C fp)) k1 h2'
    · exact pg_blk ((tg_ok (A.blk s H scope cl C fp) blk_fn tg1).1 et1 k2).1
    · exact pts_ok gc1 (A.blk s H scope cl C fp) (SB (A.blk s H scope cl C fp)) k3 k4
    · exact ge.ge (A.blk s H scope cl C fp) (SB (A.blk s H scope cl C fp)) (notIt h9) h9
  refine Good.plain rfl rfl (fun c sc bw es => by cases es <;> rfl) (fun c sc ks vs => by cases ks <;> cases vs <;> rfl) (fun h => ?_) (fun {X c sc it bw ex} A S h => ?_) (fun A S f h => fr A S h)
  · obtain ⟨_, _, _, _, _, _, _, _, _, rfl, _⟩ := inv h
    exact ⟨(fun _ _ _ z => nomatch z), fun _ _ => rfl⟩
  · refine (fr A S h).imp fun σ H Q q => tFr_of (fun env st d' st' e' => ?_) q
    rw [ev_lc2] at e'
    exact lc2_own env st d' st' e'
end
end Snd
end

section
set_option autoImplicit false
set_option Elab.async false
set_option linter.all false
set_option maxRecDepth 100000
set_option maxHeartbeats 4000000
/-! Snd36: every tree is good. -/
namespace Snd
open PySem PySem.Spec PyProof.Rows L2
open Mini (D Sl T Fl Cfg evE evEs evC evKs)
section
variable {fad : Nat → Addr} {P : Mini.Prog} {d : Nat}
/-- and so are the parts of lists and pairs -/
def Sub (fad : Nat → Addr) (P : Mini.Prog) (d : Nat) : T → Prop
  | .cons a r => Good fad P d a ∧ Good fad P d (pairV a) ∧ Good fad P d r
  | .pair _ v => Good fad P d v
  | _ => True
theorem pairV_good {a : T} (h : Good fad P d a ∧ Sub fad P d a) : Good fad P d (pairV a) := by
  cases a <;> first | exact h.1 | exact h.2
theorem noGood {t : T} (h1 : ∀ c sc it bw e, mE c sc it bw t e = false) (h2 : ∀ c sc bw es, mEs c sc bw t es = false) (h3 : ∀ c sc ks vs, mPs c sc t ks vs = false) : Good fad P d t := Good.none h1 h2 h3
theorem good_all (SB : SpB fad P d) (t : T) : Good fad P d t ∧ Sub fad P d t := by
  induction t with
  | nil => exact ⟨good_nil, trivial⟩
  | cons a r iha ihr => exact ⟨good_cons iha.1 (pairV_good iha) ihr.1, iha.1, pairV_good iha, ihr.1⟩
  | cst k => exact ⟨good_cst k, trivial⟩
  | var i => exact ⟨good_var i, trivial⟩
  | glo n => exact ⟨good_glo n, trivial⟩
  | fnv n => exact ⟨good_fnv n, trivial⟩
  | bin o a b iha ihb => exact ⟨good_bin o iha.1 ihb.1, trivial⟩
  | neg a iha => exact ⟨good_neg iha.1, trivial⟩
  | nt a iha => exact ⟨good_nt iha.1, trivial⟩
  | and a b iha ihb => exact ⟨good_and iha.1 ihb.1, trivial⟩
  | or a b iha ihb => exact ⟨good_or iha.1 ihb.1, trivial⟩
  | ife c a b ihc iha ihb => exact ⟨good_ife ihc.1 iha.1 ihb.1, trivial⟩
  | cmp o a b iha ihb => exact ⟨good_cmp o iha.1 ihb.1, trivial⟩
  | chn o p a b c iha ihb ihc => exact ⟨good_chn o p iha.1 ihb.1 ihc.1, trivial⟩
  | call f as ih => exact ⟨good_call f ih.1, trivial⟩
  | callK f as ks ns perm iha ihk => exact ⟨good_callK f ns perm iha.1 ihk.1, trivial⟩
  | callV f as ihf iha => exact ⟨good_callV iha.1, trivial⟩
  | bi o as ih =>
    refine ⟨?_, trivial⟩
    cases as with
    | cons a r => exact good_bi o ih.2.1 ih.2.2.2 ih.1
    | _ => exact Good.none (fun c sc it bw e => by cases e <;> rfl) (fun c sc bw es => by cases es <;> rfl) (fun c sc ks vs => by cases ks <;> cases vs <;> rfl)
  | srtS a ih => exact ⟨good_srtS ih.1, trivial⟩
  | srtL a ih => exact ⟨good_srtL ih.1, trivial⟩
  | ix a i iha ihi => exact ⟨good_ix iha.1 ihi.1, trivial⟩
  | slc a lo hi iha ihl ihh => exact ⟨good_slc iha.1 ihl.1 ihh.1, trivial⟩
  | tup as ih => exact ⟨good_tup ih.1, trivial⟩
  | lst as ih => exact ⟨good_lst ih.1, trivial⟩
  | dsp as ih => exact ⟨good_dsp ih.1, trivial⟩
  | pair k v ihk ihv => exact ⟨Good.none (fun c sc it bw e => by cases e <;> rfl) (fun c sc bw es => by cases es <;> rfl) (fun c sc ks vs => by cases ks <;> cases vs <;> rfl), ihv.1⟩
  | lc own e tg it cs ihe ihtg ihit ihcs => exact ⟨good_lc own ihe.1 ihit.1 (fun a h => by subst h; exact ihcs.2.1) SB, trivial⟩
  | lc2 own vs1 e tg it cs tg1 it1 cs1 ihe ihtg ihit ihcs ihtg1 ihit1 ihcs1 => exact ⟨good_lc2 own vs1 ihe.1 ihit.1 (fun a h => by subst h; exact ihcs.2.1) ihit1.1 (fun a h => by subst h; exact ihcs1.2.1) SB, trivial⟩
  | dc own k v tg it cs ihk ihv ihtg ihit ihcs => exact ⟨good_dc own ihk.1 ihv.1 ihit.1 (fun a h => by subst h; exact ihcs.2.1) SB, trivial⟩
  | get2 o k x iho ihk ihx => exact ⟨good_get2 iho.1 ihk.1 ihx.1, trivial⟩
  | rng1 a ih => exact ⟨good_rng1 ih.1, trivial⟩
  | rng2 a b iha ihb => exact ⟨good_rng2 iha.1 ihb.1, trivial⟩
  | enm a ih => exact ⟨good_enm ih.1, trivial⟩
  | zip a b iha ihb => exact ⟨good_zip iha.1 ihb.1, trivial⟩
  | _ => exact ⟨Good.none (fun c sc it bw e => by cases e <;> rfl) (fun c sc bw es => by cases es <;> rfl) (fun c sc ks vs => by cases ks <;> cases vs <;> rfl), trivial⟩
theorem good (SB : SpB fad P d) (t : T) : Good fad P d t := (good_all SB t).1
end
end Snd
end

section
set_option autoImplicit false
set_option Elab.async false
set_option linter.all false
set_option maxRecDepth 100000
set_option maxHeartbeats 1000000
/-! SndR: repr. -/
namespace Snd
open PySem PySem.Spec PyProof.Rows L2
open Mini (D Sl T)
mutual
theorem show_able : ∀ d : D, Mini.showD d = true → (toPy d).showable = true ∧ (toPy d).hasDict = false ∧ (toPy d).leavesShort 13 = true ∧ (toPy d).weight + 1 ≤ Mini.wD d
  | .non, _ => by simp [toPy, PyData.showable, PyData.hasDict, PyData.leavesShort, PyData.weight, Mini.wD]
  | .bl _, _ => by simp [toPy, PyData.showable, PyData.hasDict, PyData.leavesShort, PyData.weight, Mini.wD]
  | .int i, h => by
    simp only [Mini.showD, decide_eq_true_eq] at h
    have hl : i.natAbs.log2 < 40 := by
      by_cases z : i.natAbs = 0
      · rw [z]; decide
      · rw [Nat.log2_lt z]
        exact Nat.lt_trans h (by decide)
    refine ⟨?_, by simp [toPy, PyData.hasDict], ?_, ?_⟩
    · simp only [toPy, PyData.showable, decide_eq_true_eq]; omega
    · simp only [toPy, PyData.leavesShort, decide_eq_true_eq]
      exact PyData.shown_int_le h
    · simp only [toPy, PyData.weight, Mini.wD]
      split <;> omega
  | .tup xs, h => by
    obtain ⟨a, b, c, e⟩ := shows_able xs (by simpa [Mini.showD] using h)
    simp only [toPy, PyData.showable, PyData.hasDict, PyData.leavesShort, PyData.weight, Mini.wD]
    exact ⟨a, b, c, by omega⟩
  | .lst xs, h => by
    obtain ⟨a, b, c, e⟩ := shows_able xs (by simpa [Mini.showD] using h)
    simp only [toPy, PyData.showable, PyData.hasDict, PyData.leavesShort, PyData.weight, Mini.wD]
    exact ⟨a, b, c, by omega⟩
  | .wt xs, h => by
    obtain ⟨a, b, c, e⟩ := shows_able xs (by simpa [Mini.showD] using h)
    simp only [toPy, PyData.showable, PyData.hasDict, PyData.leavesShort, PyData.weight, Mini.wD]
    exact ⟨a, b, c, by omega⟩
  | .str _, h => by simp [Mini.showD] at h
  | .dct _, h => by simp [Mini.showD] at h
  | .set _, h => by simp [Mini.showD] at h
  | .ref _, h => by simp [Mini.showD] at h
  | .fn _, h => by simp [Mini.showD] at h
theorem shows_able : ∀ ds : List D, Mini.showDs ds = true → PyData.showableAll (toPys ds) = true ∧ PyData.hasDictAll (toPys ds) = false ∧ PyData.leavesShortAll 13 (toPys ds) = true ∧ PyData.weightAll (toPys ds) ≤ Mini.wDs ds
  | [], _ => by simp [toPys, PyData.showableAll, PyData.hasDictAll, PyData.leavesShortAll, PyData.weightAll, Mini.wDs]
  | x :: r, h => by
    simp only [Mini.showDs, Bool.and_eq_true] at h
    obtain ⟨a, b, c, e⟩ := show_able x h.1
    obtain ⟨a', b', c', e'⟩ := shows_able r h.2
    simp only [toPys, PyData.showableAll, PyData.hasDictAll, PyData.leavesShortAll, PyData.weightAll, Mini.wDs, a, b, c, a', b', c']
    exact ⟨rfl, rfl, rfl, by omega⟩
end
/-- the items behind the first -/
def tailC : List Str → List Nat
  | [] => []
  | t :: r => [44, 32] ++ codes t ++ tailC r
theorem textFrom_codes : ∀ (ts : List Str) (k : Nat) (acc : Str), codes (textFrom (k + 1) acc ts) = codes acc ++ tailC ts
  | [], _, acc => by simp [textFrom, tailC]
  | t :: r, k, acc => by
    unfold textFrom
    rw [textFrom_codes r (k + 1), codes_append, codes_append]
    have e : codes (if k + 1 > 0 then ", " else "" : String) = [44, 32] := by
      rw [if_pos (Nat.succ_pos k)]; decide +kernel
    rw [e]
    simp [tailC]
theorem join_codes : ∀ (t : Str) (ts : List Str), codes (Str.join ", " (t :: ts)) = codes t ++ tailC ts
  | t, [] => by simp [Str.join, tailC]
  | t, u :: r => by
    show codes (t ++ ", " ++ Str.join ", " (u :: r)) = _
    rw [codes_append, codes_append, join_codes u r]
    have e : codes (", " : String) = [44, 32] := by decide +kernel
    rw [e]
    simp [tailC]
theorem listText_nil_codes : codes (listText []) = [91, 93] := by decide +kernel
theorem listText_codes (t : Str) (ts : List Str) : codes (listText (t :: ts)) = [91] ++ codes t ++ tailC ts ++ [93] := by
  unfold listText
  rw [codes_append]
  unfold textFrom
  rw [textFrom_codes, codes_append, codes_append]
  have e1 : codes (if 0 > 0 then ", " else "" : String) = [] := by decide +kernel
  have e2 : codes ("[" : String) = [91] := by decide +kernel
  have e3 : codes ("]" : String) = [93] := by decide +kernel
  rw [e1, e2, e3]
  simp
theorem tupleText_codes : ∀ ts : List Str, codes (tupleText ts) = match ts with
    | [] => [40, 41]
    | [t] => [40] ++ codes t ++ [44, 41]
    | t :: r => [40] ++ codes t ++ tailC r ++ [41]
  | [] => by decide +kernel
  | [t] => by
    unfold tupleText
    rw [codes_append, codes_append, join_codes]
    have e1 : codes ("(" : String) = [40] := by decide +kernel
    have e2 : codes (if ([t] : List Str).length == 1 then ",)" else ")" : String) = [44, 41] := by
      show codes (Str.ofString ",)") = _
      decide +kernel
    rw [e1, e2]
    simp [tailC]
  | t :: u :: r => by
    unfold tupleText
    rw [codes_append, codes_append, join_codes]
    have e1 : codes ("(" : String) = [40] := by decide +kernel
    have e2 : codes (if (t :: u :: r).length == 1 then ",)" else ")" : String) = [41] := by
      rw [if_neg (by simp)]; decide +kernel
    rw [e1, e2]
    simp
mutual
theorem shown_codes : ∀ d : D, Mini.showD d = true → codes (toPy d).shown = Mini.reprD d
  | .non, _ => by simp only [toPy, PyData.shown, Mini.reprD]; decide +kernel
  | .bl true, _ => by simp only [toPy, PyData.shown, Mini.reprD]; decide +kernel
  | .bl false, _ => by simp only [toPy, PyData.shown, Mini.reprD]; decide +kernel
  | .int i, _ => by
    simp only [toPy, PyData.shown, Mini.reprD, Mini.intText]
    show (Str.ofString (toString i)).cps.toList = _
    rw [Str.ofString_eq_toList]
  | .tup [], _ => by simp only [toPy, toPys, PyData.shown, PyData.shownAll, Mini.reprD]; rw [tupleText_codes]
  | .tup [x], h => by
    simp only [Mini.showD, Mini.showDs, Bool.and_eq_true] at h
    simp only [toPy, toPys, PyData.shown, PyData.shownAll, Mini.reprD]
    rw [tupleText_codes, ← shown_codes x h.1]
  | .tup (x :: y :: r), h => by
    simp only [Mini.showD, Mini.showDs, Bool.and_eq_true] at h
    have e := shownAll_codes (y :: r) (by simp [Mini.showDs, h.2.1, h.2.2])
    simp only [toPys, PyData.shownAll] at e
    simp only [toPy, toPys, PyData.shown, PyData.shownAll, Mini.reprD]
    rw [tupleText_codes, ← shown_codes x h.1, ← e]
  | .wt [], _ => by simp only [toPy, toPys, PyData.shown, PyData.shownAll, Mini.reprD]; rw [tupleText_codes]
  | .wt [x], h => by
    simp only [Mini.showD, Mini.showDs, Bool.and_eq_true] at h
    simp only [toPy, toPys, PyData.shown, PyData.shownAll, Mini.reprD]
    rw [tupleText_codes, ← shown_codes x h.1]
  | .wt (x :: y :: r), h => by
    simp only [Mini.showD, Mini.showDs, Bool.and_eq_true] at h
    have e := shownAll_codes (y :: r) (by simp [Mini.showDs, h.2.1, h.2.2])
    simp only [toPys, PyData.shownAll] at e
    simp only [toPy, toPys, PyData.shown, PyData.shownAll, Mini.reprD]
    rw [tupleText_codes, ← shown_codes x h.1, ← e]
  | .lst [], _ => by simp only [toPy, toPys, PyData.shown, PyData.shownAll, Mini.reprD]; exact listText_nil_codes
  | .lst (x :: r), h => by
    simp only [Mini.showD, Mini.showDs, Bool.and_eq_true] at h
    simp only [toPy, toPys, PyData.shown, PyData.shownAll, Mini.reprD]
    rw [listText_codes, ← shown_codes x h.1, ← shownAll_codes r h.2]
  | .str _, h => by simp [Mini.showD] at h
  | .dct _, h => by simp [Mini.showD] at h
  | .set _, h => by simp [Mini.showD] at h
  | .ref _, h => by simp [Mini.showD] at h
  | .fn _, h => by simp [Mini.showD] at h
theorem shownAll_codes : ∀ ds : List D, Mini.showDs ds = true → tailC (PyData.shownAll (toPys ds)) = Mini.reprDs ds
  | [], _ => by simp only [toPys, PyData.shownAll, tailC, Mini.reprDs]
  | x :: r, h => by
    simp only [Mini.showDs, Bool.and_eq_true] at h
    simp only [toPys, PyData.shownAll, tailC, Mini.reprDs]
    rw [shown_codes x h.1, shownAll_codes r h.2]
end
end Snd
end

section
set_option autoImplicit false
set_option Elab.async false
set_option linter.all false
set_option maxRecDepth 100000
set_option maxHeartbeats 1000000
/-! SndR2: repr(v). -/
namespace Snd
open PySem PySem.Spec PyProof.Rows L2
open Mini (D Sl T)
section
variable {fad : Nat → Addr} {X : Cx}
theorem call_reprV (hg : X.A.guards = some []) (hu : X.A.units + 64 < cLine) : CallR X (.builtin "repr") (rBi X.K fad .repr) := by
  intro pins s σ H vs us Q I r ⟨Av, ρ, st, ds, d, sr, w, e, q⟩
  unfold Mini.biD at e
  split at e <;> first | (cases e; done) | skip
  all_goals first | (rename_i h; cases h; done) | skip
  rename_i x _
  obtain ⟨hc, e⟩ := ite_some e
  cases e
  simp only [Bool.and_eq_true, decide_eq_true_eq] at hc
  obtain ⟨⟨h1, h2⟩, h3⟩ := hc
  obtain ⟨hp, hd⟩ := shallow_of h1
  obtain ⟨a1, a2, a3, a4⟩ := show_able x h2
  obtain ⟨y, rfl, wx⟩ := w.one
  obtain ⟨u, rfl, rx⟩ := ones r
  obtain ⟨as, rd⟩ := wx.reads I hp rx
  have hdep : (toPy x).depth ≤ 60 := by rw [toPy_depth x hp]; exact hd
  have hsz : (toPy x).shown.length ≤ sizeLine := PyData.shown_fits (B := 13) (by decide) (by decide) a3 (by omega)
  have key : ∀ (h' : Heap) (t : Tok) (tk : Nat), (∀ b o, s.heap.get? b = some o → h'.get? b = some o) → EP X pins σ Q (.str (toPy x).shown t) { s with heap := h', toks := tk } := fun h' t tk k => by
    refine ⟨.str (toPy x).shown, H, I.kept k, ⟨t, rfl⟩, q _ H Grow.refl sr ?_⟩
    show Rep _ _ _ _ _ _ _
    rw [← shown_codes x h2]
    exact .str _
  cases x with
  | non =>
    have := wx.non_inv
    subst this
    cases rx
    exact PySem.P.repr_of_none (key s.heap _ _ fun _ _ h => h)
  | bl b =>
    have := wx.bl_inv
    subst this
    cases rx
    have k := key s.heap
    refine PySem.P.repr_of_bool ?_
    cases b <;> exact k _ _ fun _ _ h => h
  | int i =>
    have := wx.int_inv
    subst this
    obtain ⟨t, rfl⟩ := rx
    have hl : i.natAbs.log2 < 1920 := by
      simp only [toPy, PyData.showable, decide_eq_true_eq] at a1
      exact a1
    exact PySem.P.repr_of_int hl (key s.heap _ _ fun _ _ h => h)
  | tup xs =>
    obtain ⟨a, ws, rfl, _⟩ := wx.tup_inv
    cases rx
    exact repr_of_reads' rd a1 (PyData.noDict_hsm a2) hg (by omega) (fun _ _ h => h) (fun h' u tk k => key h' u tk k) hsz
  | lst xs =>
    obtain ⟨a, ws, rfl, _⟩ := wx.lst_inv
    cases rx
    exact repr_of_reads' rd a1 (PyData.noDict_hsm a2) hg (by omega) (fun _ _ h => h) (fun h' u tk k => key h' u tk k) hsz
  | wt xs =>
    obtain ⟨a, ws, rfl, _⟩ := wx.wt_inv
    cases rx
    exact repr_of_reads' rd a1 (PyData.noDict_hsm a2) hg (by omega) (fun _ _ h => h) (fun h' u tk k => key h' u tk k) hsz
  | _ => simp [Mini.showD] at h2
end
end Snd
end

section
set_option autoImplicit false
set_option Elab.async false
set_option linter.all false
set_option maxRecDepth 100000
set_option maxHeartbeats 1000000
/-! Snd37: sorted(v, key=len, reverse=True), sorted(set(v)). -/
namespace Snd
open PySem PySem.Spec PyProof.Rows L2
open Mini (D Sl T)
section
variable {fad : Nat → Addr} {H H' H0 H1 : Hp} {Av Bad : Addr → Prop} {ρ ρ' ρ1 : List Addr} {st st' : Mini.St} {X : Cx} {pins : List (Addr × Obj)} {σ : L2.St} {s : Shared}
/-- how long a value is, as a key -/
def lenK (d : D) : PyData := .int ((Mini.lenD d).getD 0)
theorem lenRev_sorted (xs : List D) : xs.mergeSort (PySem.W.dataLe true lenK) = Mini.sortLenRev xs := by
  rw [← isortG_eq (dataLe_total true lenK), sortLenRev_is]
  refine isortG_congr fun a ha b hb => ?_
  rw [PySem.W.dataLe_eq]
  show (!PySem.W.dataLt (lenK a) (lenK b)) = _
  unfold lenK
  rw [PySem.W.dataLt_int]
  congr 1
  simp only [decide_eq_decide]
  omega
theorem len_of {A : Around} {d : D} {u : Value} {E : Value → Shared → Prop} (ht : ∃ xs, d = .tup xs) (hR : RD X fad H Av ρ u d) (I : Inv X pins σ H s) : ∀ (h : Heap) (tk : Nat), (∀ b o, s.heap.get? b = some o → h.get? b = some o) →
    wpAny (model X.prog X.w) A (call (.builtin "len") [u]) (PySem.W.KeyPure (lenK d) { s with heap := h, toks := tk }) E { s with heap := h, toks := tk } := by
  intro h tk kp
  obtain ⟨xs, rfl⟩ := ht
  obtain ⟨x, rx, r⟩ := hR
  cases r with
  | @tup _ a vs h1 h2 =>
    cases rx
    obtain ⟨its, rv, ⟨o, ho, hc, n, hdt⟩, hz⟩ := I.tuple (X := X) (a := a) (.inl (.inl h1))
    have hl := rv.length
    have hl2 := h2.length
    have hn := line63
    refine len_tuple (s := { s with heap := h, toks := tk }) ⟨o, kp _ _ ho, hc, n, hdt⟩ (by simp only [List.size_toArray]; omega) ?_
    refine ⟨h, tk + 1 + 1, rfl, fun _ _ z => z, ?_⟩
    have e : lenK (.tup xs) = .int (its.toArray.size : Int) := by
      unfold lenK
      simp only [Mini.lenD, Option.getD_some, List.size_toArray]
      rw [← hl, ← hl2]
    rw [e]
    exact .int _ _
theorem pe_srtL (hc : X.calm = true) (hu : X.A.units + 64 < cLine) {p q p1 p2 p3 p4 : Pos} {j : Nat} {e : Expr} {f : EvF} (hg : Gl X "sorted") (hm : X.mg "sorted" = none) (hg2 : Gl X "len") (hm2 : X.mg "len" = none) (he : PE X e (tF X.K fad .bor f)) (hs : ∀ a p, e ≠ .Starred a p) :
    PE X (.Call (.Name "sorted" p) [e] [⟨some "key", .Name "len" q, p1⟩, ⟨some "reverse", .Constant (.bool true) j p3, p4⟩] p2) (tFr X fad fun env st => (f env st).bind fun (v, s1) => (Mini.biD .sortedLenRev [v]).map (·, s1)) := by
  refine ⟨fun pins s σ H Q I h => ?_⟩
  obtain ⟨Av, ρ, env, st, d, st', ev, e0, ho, qk⟩ := h
  obtain ⟨⟨x, s1⟩, e1, e0⟩ := Option.bind_eq_some_iff.mp e0
  obtain ⟨d', e2, e3⟩ := Option.map_eq_some_iff.mp e0
  cases e3
  have hst : ∀ e' ∈ ([e] : List Expr), ∀ a p, e' ≠ .Starred a p := fun e' he' => by
    rw [List.mem_singleton] at he'
    subst he'
    exact hs
  refine wpAny_Call_Name_kw (ld_blt I hg hm PyProof.Rows.boot_sorted ?_)
  let R : List V → Hp → Prop := fun vs H1 => ∃ ρ1 v, vs = [v] ∧ Ext ρ ρ1 H H1 ∧ SR X.K fad Av ρ1 H1 st' ∧ RepW X.K fad H1 Av ρ1 x v
  have hrun := (pa_cons he pa_nil (noStar hs)).run p2 pins s σ H R I ⟨Av, ρ, env, st, x, _, ev, e1, fun ρ1 H1 v x1 r1 p1 => ⟨ρ1, v, rfl, x1, r1, p1⟩⟩
  refine PyProof.Rows.callWith_kw (thn hrun fun us s1 ⟨vs, H1, I1, rv, ρ1, v, hv, x1, r1, p1⟩ => ?_) (by rw [noStar hs]; rfl) (noneStarred hst)
  subst hv
  obtain ⟨u, rfl, ru⟩ := ones rv
  refine kwAll_cons (ld_blt I1 hg2 hm2 PySem.boot_len (kwAll_cons (Constant_bool (kwAll_nil ?_))))
  show wpAny _ _ (call (.builtin "sorted") [u] [(Str.ofString "key", .builtin "len"), (Str.ofString "reverse", .bool true)]) _ _ _
  -- what is sorted
  have e2 : ((Mini.itemsD x).bind fun xs => if xs.all Mini.isIntTup && !Mini.isSet x then some (D.lst (Mini.sortLenRev xs)) else none) = some d := e2
  obtain ⟨xs, e4, e5⟩ := Option.bind_eq_some_iff.mp e2
  obtain ⟨hq, e5⟩ := ite_some e5
  cases e5
  rw [Bool.and_eq_true, Bool.not_eq_true'] at hq
  have ht : ∀ d ∈ xs, ∃ ys, d = D.tup ys := fun d hd => by
    obtain ⟨ys, h1, _⟩ := intTup_of (List.all_eq_true.mp hq.1 d hd)
    exact ⟨ys, h1⟩
  refine sorted_of (I1.ok.hd hc) I1 r1 p1 ru e4 (not_set e4 hq.2) (PyProof.Rows.ksk_s2 _ _ _) fun s2 us2 vs2 I2 ⟨h', tk, es2⟩ rv2 hz rl => ?_
  have eD := each_of (X := X) rl rv2
  have hp : H1 s2.heap.objs.size = none := I2.hok.fresh (Nat.le_refl _)
  have hlen := rv2.length
  have hlx := rl.length
  refine PySem.W.list_sort_key_data (s := { s2 with heap := s2.heap.push (seqObj "list" us2.toArray 0) }) (b := true) (R := RD X fad H1 Av ρ1) lenK (Heap.get?_push_size _ rfl) eD (PySem.W.AllAlike.of fun _ _ => by simp [PySem.W.alike, lenK]) (PySem.W.Sortable.others fun _ => ⟨by simp [lenK], by simp [lenK]⟩) (by omega) (fun d hd => ?_) (PyProof.Rows.ksk_l2 _ _ _) (PyProof.Rows.ksk_t5 _ _ _) (fun v d hR hd h tk kp => ?_) fun out c h' tk kp hD hol eo => ?_
  · have : (lenK d).depth = 0 := by simp [lenK, PyData.depth]
    show X.A.units + 1 + 1 + _ < cLine
    omega
  · have I3 : Inv X pins σ H1 { s2 with heap := h, toks := tk } := I2.kept fun b o q => kp b o (Nat.ne_of_lt (Heap.lt_size q)) (Heap.get?_push_of_some _ q)
    exact len_of (s := { s2 with heap := h, toks := tk }) (ht d hd) hR I3 h tk fun _ _ z => z
  · rw [lenRev_sorted] at eo
    obtain ⟨vs', rv', rl'⟩ := of_each eo
    have hl' : vs'.length ≤ sizeLine := by rw [rv'.length, hol]; omega
    have J := I2.laid (t' := tk) (h' := h') (a := s2.heap.objs.size) (o := .lst vs') (fun b o q => kp b o (Nat.ne_of_lt (Heap.lt_size q)) (Heap.get?_push_of_some _ q)) (Nat.le_refl _) ⟨hl', _, c, rv', hD⟩
    have x2 : Ext ρ1 ρ1 H1 (upd H1 s2.heap.objs.size (.lst vs')) := Ext.new hp
    have hnρ : s2.heap.objs.size ∉ ρ1 := fun z => by
      obtain ⟨kvs, ek⟩ := r1.dK z
      rw [ek] at hp; cases hp
    refine ⟨.ref s2.heap.objs.size, upd H1 s2.heap.objs.size (.lst vs'), J, rfl, qk ρ1 _ _ (ev.sr.trans r1 x1 x2) (none_back ev.sr x1 r1 hp) hnρ (r1.own hp trivial) (.lst upd_same (RepL.gr (Ext.grO (X := X) r1 x2 hp) _ _ rl'))⟩
end
end Snd
end

section
set_option autoImplicit false
set_option Elab.async false
set_option linter.all false
set_option maxRecDepth 100000
set_option maxHeartbeats 1000000
/-! Snd38: sorted(set(v)). -/
namespace Snd
open PySem PySem.Spec PyProof.Rows L2
open Mini (D Sl T)
/-- a tuple of ints -/
abbrev tI (z : List Int) : D := .tup (z.map .int)
theorem eqDs_ints : ∀ (a b : List Int), Mini.eqDs (a.map .int) (b.map .int) = decide (a = b)
  | [], [] => by simp [Mini.eqDs]
  | [], _ :: _ => by simp [Mini.eqDs]
  | _ :: _, [] => by simp [Mini.eqDs]
  | x :: a, y :: b => by
    simp only [List.map_cons, Mini.eqDs, Mini.eqD, eqDs_ints a b, List.cons.injEq]
    by_cases h1 : x = y <;> by_cases h2 : a = b <;> simp [h1, h2]
theorem eqD_tI (a b : List Int) : Mini.eqD (tI a) (tI b) = decide (a = b) := by simp only [tI, Mini.eqD, eqDs_ints]
theorem tI_inj {a b : List Int} (h : tI a = tI b) : a = b := by
  have e := eqD_tI a b
  rw [← h, eqD_tI] at e
  simpa using e
theorem ltDs_anti : ∀ (a b : List Int), Mini.ltDs (a.map .int) (b.map .int) = false → Mini.ltDs (b.map .int) (a.map .int) = false → a = b
  | [], [], _, _ => rfl
  | [], _ :: _, h, _ => by simp [Mini.ltDs] at h
  | _ :: _, [], _, h => by simp [Mini.ltDs] at h
  | x :: a, y :: b, h1, h2 => by
    simp only [List.map_cons, Mini.ltDs, Mini.eqD, Mini.ltD] at h1 h2
    by_cases e : x = y
    · subst e
      simp at h1 h2
      rw [ltDs_anti a b h1 h2]
    · have e' : ¬ y = x := fun z => e z.symm
      simp [e, e'] at h1 h2
      omega
theorem tI_anti {a b : List Int} (h1 : Mini.ltD (tI a) (tI b) = false) (h2 : Mini.ltD (tI b) (tI a) = false) : a = b := ltDs_anti a b (by simpa [tI, Mini.ltD] using h1) (by simpa [tI, Mini.ltD] using h2)
theorem isIntTup_tI (a : List Int) : Mini.isIntTup (tI a) = true := by
  simp only [tI, Mini.isIntTup, List.all_map, List.all_eq_true]
  intro x _
  rfl
theorem srt_tI (zs : List (List Int)) : Srt (zs.map tI) := intTups_srt (by
  rw [List.all_map, List.all_eq_true]
  intro z _
  exact isIntTup_tI z)
/-- sorting forgets in which order things came -/
theorem sortD_perm {xs ys : List (List Int)} (p : xs.Perm ys) : Mini.sortD (xs.map tI) = Mini.sortD (ys.map tI) := by
  rw [← (srt_tI xs).sorted, ← (srt_tI ys).sorted]
  have T := dataLe_total false toPy
  have s1 : ((xs.map tI).mergeSort (PySem.W.dataLe false toPy)).Pairwise (fun a b => PySem.W.dataLe false toPy a b = true) := by rw [← isortG_eq T]; exact isortG_sorted T _
  have s2 : ((ys.map tI).mergeSort (PySem.W.dataLe false toPy)).Pairwise (fun a b => PySem.W.dataLe false toPy a b = true) := by rw [← isortG_eq T]; exact isortG_sorted T _
  have pp : ((xs.map tI).mergeSort (PySem.W.dataLe false toPy)).Perm ((ys.map tI).mergeSort (PySem.W.dataLe false toPy)) := ((List.mergeSort_perm _ _).trans (p.map tI)).trans (List.mergeSort_perm _ _).symm
  refine pp.eq_of_pairwise (fun a b ha hb h1 h2 => ?_) s1 s2
  have ha' := (List.mergeSort_perm _ _).mem_iff.mp ha
  have hb' := (List.mergeSort_perm _ _).mem_iff.mp hb
  obtain ⟨u, _, rfl⟩ := List.mem_map.mp ha'
  obtain ⟨v, _, rfl⟩ := List.mem_map.mp hb'
  have S := srt_tI [u, v]
  have mu : tI u ∈ [u, v].map tI := by simp
  have mv : tI v ∈ [u, v].map tI := by simp
  have g : ∀ a b : D, PySem.W.dataLe false toPy a b = !PySem.W.dataLt (toPy b) (toPy a) := fun a b => rfl
  rw [g, toPy_lt _ _ (S.plain _ mv) (S.plain _ mu) (S.alike _ mv _ mu)] at h1
  rw [g, toPy_lt _ _ (S.plain _ mu) (S.plain _ mv) (S.alike _ mu _ mv)] at h2
  rw [tI_anti (a := u) (b := v) (by simpa using h2) (by simpa using h1)]
/-- each once -/
def nubI : List (List Int) → List (List Int)
  | [] => []
  | z :: r => z :: (nubI r).filter fun y => decide (¬ z = y)
theorem nub_tI : ∀ zs : List (List Int), Mini.nubD (zs.map tI) = (nubI zs).map tI
  | [] => rfl
  | z :: r => by
    simp only [List.map_cons, Mini.nubD, nubI, nub_tI r, List.filter_map]
    congr 2
    refine List.filter_congr fun y _ => ?_
    simp only [Function.comp, eqD_tI]
    by_cases h : z = y <;> simp [h]
theorem nubI_mem : ∀ {zs : List (List Int)} {y : List Int}, y ∈ nubI zs ↔ y ∈ zs
  | [], y => by simp [nubI]
  | z :: r, y => by
    simp only [nubI, List.mem_cons, List.mem_filter, nubI_mem (zs := r), decide_eq_true_eq]
    constructor
    · rintro (h | h)
      · exact .inl h
      · exact .inr h.1
    · rintro (h | h)
      · exact .inl h
      · by_cases q : z = y
        · exact .inl q.symm
        · exact .inr ⟨h, q⟩
theorem nubI_nodup : ∀ zs : List (List Int), (nubI zs).Nodup
  | [] => List.nodup_nil
  | z :: r => by
    simp only [nubI, List.nodup_cons, List.mem_filter, decide_eq_true_eq]
    refine ⟨fun h => ?_, (nubI_nodup r).filter _⟩
    simp at h
section
variable {fad : Nat → Addr} {H H' H0 H1 : Hp} {Av Bad : Addr → Prop} {ρ ρ' ρ1 : List Addr} {st st' : Mini.St} {X : Cx} {pins : List (Addr × Obj)} {σ : L2.St} {s : Shared}
/-- a list in the order of what it was made of -/
theorem perm_map_inv {α β : Type} {f : α → β} : ∀ {m : List β} {l : List α}, m.Perm (l.map f) → ∃ l' : List α, m = l'.map f ∧ l'.Perm l := by
  have key : ∀ {m k : List β}, m.Perm k → ∀ l : List α, k = l.map f → ∃ l' : List α, m = l'.map f ∧ l'.Perm l := by
    intro m k p
    induction p with
    | nil => intro l e; exact ⟨l, e, .refl _⟩
    | cons x _ ih =>
      intro l e
      cases l with
      | nil => cases e
      | cons y l =>
        simp only [List.map_cons, List.cons.injEq] at e
        obtain ⟨l', e', p'⟩ := ih l e.2
        exact ⟨y :: l', by rw [List.map_cons, e.1, e'], p'.cons y⟩
    | swap x y r =>
      intro l e
      match l, e with
      | a :: b :: l, e =>
        simp only [List.map_cons, List.cons.injEq] at e
        exact ⟨b :: a :: l, by rw [List.map_cons, List.map_cons, e.1, e.2.1, e.2.2], .swap a b l⟩
    | trans _ _ ih1 ih2 =>
      intro l e
      obtain ⟨l2, e2, p2⟩ := ih2 l e
      obtain ⟨l1, e1, p1⟩ := ih1 l2 e2
      exact ⟨l1, e1, p1.trans p2⟩
  exact fun {m l} p => key p l rfl
/-- sorted of a set of tuples of ints -/
def rSrtS (X : Cx) (fad : Nat → Addr) : List V → Hp → VK → Prop := fun vs H Q => ∃ (Av : Addr → Prop) (ρ : List Addr) (st : Mini.St) (a : Addr) (L : List (Addr × List Int)), SR X.K fad Av ρ H st ∧ vs = [.ref a] ∧ H a = some (SetTO X.prog X.w a L) ∧ (∀ p ∈ L, SqT X.K H p.1 (p.2.map V.int)) ∧ (∀ p ∈ L, Rep X.K fad H (Bd Av ρ) ρ (tI p.2) (.ref p.1)) ∧
  ∀ v H', (L.map (·.2)).Nodup → Grow H H' → SR X.K fad Av ρ H' st → PostN X.K fad H H' Av ρ (.lst (Mini.sortD (L.map fun p => tI p.2))) v → Q v H'
theorem call_sortedS (hc : X.calm = true) (hu : X.A.units + 64 < cLine) : CallR X (.builtin "sorted") (rSrtS X fad) := by
  intro pins s σ H vs us Q I r ⟨Av, ρ, st, a, L, sr, hv, ha, hk, hR, q⟩
  subst hv
  have R0 : SetT0 X.prog X.w s.heap a L := (I.hok a _ ha).1
  obtain ⟨es, ep, t, R⟩ := R0.full fun p hp => I.isT (hk p hp)
  rw [Vals.ref1 r]
  obtain ⟨o, ho, hex, hd⟩ := R.ob
  have hsz := R.size
  have hfew := R.few
  refine Calls.call_function_entry kind_sorted plain_sorted entry_sorted (args_sorted1 _) ?_
  unfold Builtin.«sorted»
  refine wpAny_bind (m := checkCount "sorted" 1 1 _) (wpAny_pure ?_)
  refine wpAny_bind (collect_set (A := X.A.in1) (I.ok.hd hc) ⟨o, ho, hex.1, hd⟩ R.fits (by unfold scanBound; omega) R.tab.ris R.led fun s1 vs k1 hz g1 o1 pm => ?_)
  have hes : es.toList.map (·.2) = L.map fun q => Value.ref q.1 := by
    rw [R.rows]
    unfold rowsOf
    rw [List.map_map] <;> rfl
  rw [hes] at pm
  obtain ⟨L1, e1, p1⟩ := perm_map_inv (m := vs) (l := L) pm
  have hs1 : ∀ q ∈ L1, q ∈ L := fun q hq => p1.mem_iff.mp hq
  subst e1
  have hvl : (L1.map fun q => Value.ref q.1).length < 64 := by rw [List.length_map, p1.length_eq]; exact hfew
  have hzl : (L1.map fun q => Value.ref q.1).length ≤ sizeLine := by rw [sizeLine_eq]; omega
  refine wpAny_bind (wpAny_newList ?_ hzl)
  have I1 : Inv X pins σ H s1 := I.call' (ch := []) o1 (Un.kept k1) (I.hok.kept k1) (by rw [g1]; exact I.bare) fun _ z => nomatch z
  have eD : PySem.W.EachIs (RD X fad H Av ρ) (L1.map fun q => Value.ref q.1) (L1.map fun p => tI p.2) := by
    clear pm p1 hvl hzl
    induction L1 with
    | nil => exact .nil
    | cons x r ih => exact .cons ⟨.ref x.1, rfl, hR x (hs1 x List.mem_cons_self)⟩ (ih fun q hq => hs1 q (List.mem_cons_of_mem _ hq))
  have emap : (L1.map fun p => tI p.2) = (L1.map (·.2)).map tI := by rw [List.map_map]; rfl
  have S : Srt (L1.map fun p => tI p.2) := by rw [emap]; exact srt_tI _
  generalize hus : (L1.map fun q => Value.ref q.1) = us1 at eD hzl
  generalize hxs : (L1.map fun p => tI p.2) = xs at eD S
  have hp : H s1.heap.objs.size = none := I1.hok.fresh (Nat.le_refl _)
  generalize hs2 : ({ s1 with heap := s1.heap.push (seqObj "list" us1.toArray 0) } : Shared) = s2
  have ho2 : s2.heap.get? s1.heap.objs.size = some (seqObj "list" us1.toArray 0) := by rw [← hs2]; exact Heap.get?_push_size _ rfl
  refine wpAny_bind (wpAny_holding ?_)
  refine wpAny_call_entry slot_list_sort ⟨_, ho2, rfl⟩ entry_list_sort ?_ (args_list_sort _)
  have keep : ∀ b o, s1.heap.get? b = some o → (PySem.W.sortingHeap s2.heap s1.heap.objs.size us1).get? b = some o := fun b o e => by
    refine PySem.W.sortingHeap_old (Nat.ne_of_lt (Heap.lt_size e)) ?_
    rw [← hs2]
    exact Heap.get?_push_of_some _ e
  have er : PySem.W.EachIs (fun v d => ∃ as, Reads (PySem.W.sortingHeap s2.heap s1.heap.objs.size us1) v (toPy d) as) us1 xs := (each_reads I1 eD S.plain).mono fun _ _ ⟨as, r⟩ => ⟨as, PyProof.Rows.Reads.keeps (fun b o => keep b o) r⟩
  have SA : PySem.W.SortsAt X.prog X.w X.A.in1.in1 { s2 with heap := PySem.W.sortingHeap s2.heap s1.heap.objs.size us1 } (PySem.W.dataKind (PySem.W.sortingHeap s2.heap s1.heap.objs.size us1) (xs.map toPy)) us1 :=
    sorts_at (X := X) (s := { s2 with heap := PySem.W.sortingHeap s2.heap s1.heap.objs.size us1 }) S (PySem.W.each_map (R := fun v d => ∃ as, Reads (PySem.W.sortingHeap s2.heap s1.heap.objs.size us1) v d as) toPy er) (by show X.A.units + 1 + 1 + 60 < cLine; omega)
  refine PySem.W.list_sort_vals ho2 SA hzl ⟨_, rfl, ?_⟩
  have eo := PySem.W.sortVals_data false eD er S.allAlike
  rw [S.sorted] at eo
  obtain ⟨vs', rv', rl'⟩ := of_each eo
  obtain ⟨n', hn'⟩ := sortedHeap_at (vs := us1) (out := (PySem.W.sortVals (PySem.W.dataKind (PySem.W.sortingHeap s2.heap s1.heap.objs.size us1) (xs.map toPy)) false us1 us1).toArray) ho2
  have hl' : vs'.length ≤ sizeLine := by rw [rv'.length, PySem.W.sortVals_length false rfl]; exact hzl
  have sz2 : s2.heap.objs.size = s1.heap.objs.size + 1 := by rw [← hs2]; exact size_push' _ _
  have J := I1.laid (t' := s2.toks) (h' := sortedHeap s2.heap s1.heap.objs.size us1 (PySem.W.sortVals (PySem.W.dataKind (PySem.W.sortingHeap s2.heap s1.heap.objs.size us1) (xs.map toPy)) false us1 us1).toArray) (a := s1.heap.objs.size) (o := .lst vs') (fun b o e => by
    have hb := Heap.lt_size e
    rw [sortedHeap_old (Nat.ne_of_lt hb) (by rw [sz2]; exact Nat.lt_succ_of_lt hb), ← hs2]
    exact Heap.get?_push_of_some _ e) (Nat.le_refl _) ⟨hl', _, n', rv', hn'⟩
  have esort : Mini.sortD (L.map fun p => tI p.2) = Mini.sortD xs := by
    have e0 : (L.map fun p => tI p.2) = (L.map (·.2)).map tI := by rw [List.map_map]; rfl
    rw [← hxs, emap, e0]
    exact sortD_perm (p1.symm.map _)
  refine wpAny_pure ⟨.ref s1.heap.objs.size, rfl, .ref s1.heap.objs.size, upd H s1.heap.objs.size (.lst vs'), ?_, rfl, q _ _ R.nd (Grow.new hp) (sr.new hp) (by rw [esort]; exact sr.newL hp rl')⟩
  rw [← hs2] at J ⊢
  exact J
/-- lists of tuples of ints -/
theorem tups_of {K : PySem.W.Frag} : ∀ {xs : List D} {vs : List V}, RepL K fad H Bad ρ xs vs → xs.all Mini.isIntTup = true → ∃ ks : List (Addr × List Int), vs = ks.map (fun p => V.ref p.1) ∧ xs = (ks.map (·.2)).map tI ∧ (∀ p ∈ ks, SqT K H p.1 (p.2.map V.int)) ∧ ∀ p ∈ ks, Rep K fad H Bad ρ (tI p.2) (.ref p.1)
  | _, _, .nil, _ => ⟨[], rfl, rfl, by simp, by simp⟩
  | d :: xs, v :: vs, .cons h t, e => by
    rw [List.all_cons, Bool.and_eq_true] at e
    obtain ⟨ks, rfl, rfl, h1, h2⟩ := tups_of t e.2
    obtain ⟨ys, rfl, hy⟩ := intTup_of e.1
    have hz : ∃ zs : List Int, ys = zs.map D.int := by
      clear e h t
      induction ys with
      | nil => exact ⟨[], rfl⟩
      | cons y r ih =>
        obtain ⟨i, rfl⟩ := hy y List.mem_cons_self
        obtain ⟨zs, rfl⟩ := ih fun x hx => hy x (List.mem_cons_of_mem _ hx)
        exact ⟨i :: zs, rfl⟩
    obtain ⟨zs, rfl⟩ := hz
    have h0 := h
    cases h with
    | @tup _ a ws ha hr =>
      have ev : ws = zs.map V.int := by
        clear e hy h0 ha
        induction zs generalizing ws with
        | nil => cases hr; rfl
        | cons z r ih =>
          cases hr with
          | cons h t => cases h; rw [ih t]; rfl
      subst ev
      refine ⟨(a, zs) :: ks, rfl, rfl, fun p hp => ?_, fun p hp => ?_⟩
      · rcases List.mem_cons.mp hp with rfl | hp
        · exact .inl (.inl ha)
        · exact h1 p hp
      · rcases List.mem_cons.mp hp with rfl | hp
        · exact h0
        · exact h2 p hp
theorem pe_srtS (hc : X.calm = true) (hu : X.A.units + 64 < cLine) {p q p1 p2 : Pos} {e : Expr} {f : EvF} (hg : Gl X "sorted") (hm : X.mg "sorted" = none) (hg2 : Gl X "set") (hm2 : X.mg "set" = none) (he : PE X e (tF X.K fad .bor f)) (hs : ∀ a p, e ≠ .Starred a p) :
    PE X (.Call (.Name "sorted" p) [.Call (.Name "set" q) [e] [] p1] [] p2) (tFr X fad fun env st => (f env st).bind fun (v, s1) => (Mini.biD .sortedSet [v]).map (·, s1)) := by
  have hst : ∀ e' ∈ ([] : List Expr), ∀ a p, e' ≠ .Starred a p := fun e' he' => nomatch he'
  have inner := pe_callTy (p := q) (pos := p1) (cr_setOfT hc hu) hg2 hm2 (by decide +kernel) (pa_cons he pa_nil (noStar hs)) (by decide) (by decide) (noStar hs) (by rfl)
  refine (pe_callB (p := p) (pos := p2) (call_sortedS (fad := fad) hc hu) hg hm PyProof.Rows.boot_sorted (pa_cons inner pa_nil (by rfl)) (by decide) (by decide) (by rfl) (by rfl)).imp fun σ H Q h => ?_
  obtain ⟨Av, ρ, env, st, d, st', ev, e0, ho, qk⟩ := h
  obtain ⟨⟨x, s1⟩, e1, e0⟩ := Option.bind_eq_some_iff.mp e0
  obtain ⟨d', e2, e3⟩ := Option.map_eq_some_iff.mp e0
  cases e3
  have hx : ∃ xs, x = .lst xs := by cases x <;> first | exact ⟨_, rfl⟩ | (cases e2; done)
  obtain ⟨xs, rfl⟩ := hx
  have e2 : (if xs.all Mini.isIntTup && decide (xs.length < 64) then some (D.lst (Mini.sortD (Mini.nubD xs))) else none) = some d := e2
  obtain ⟨hq, e2⟩ := ite_some e2
  cases e2
  rw [Bool.and_eq_true, decide_eq_true_eq] at hq
  refine ⟨Av, ρ, env, st, _, _, ev, e1, fun ρ1 H1 v x1 r1 p1 => ?_⟩
  have p1 : RepW X.K fad H1 Av ρ1 (.lst _) v := p1
  obtain ⟨a, vs, rfl, ha, ra⟩ := p1.lst_inv
  obtain ⟨ks, rfl, exs, k1, k2⟩ := tups_of ra hq.1
  refine ⟨a, ks, rfl, .inl ha, k1, by rw [exs, List.length_map, List.length_map] at hq; exact hq.2, fun b L hb hL1 hL2 => ?_⟩
  have g2 : Grow H1 (upd H1 b (SetTO X.prog X.w b L)) := Grow.new hb
  have x2 : Ext ρ1 ρ1 H1 (upd H1 b (SetTO X.prog X.w b L)) := Ext.new hb
  have r2 := r1.new (o := SetTO X.prog X.w b L) hb
  refine ⟨Av, ρ1, st', b, L, r2, rfl, upd_same, fun p hp => ?_, fun p hp => (k2 p (hL1 p hp)).ext r1 x2, fun w H3 nd g3 r3 p3 => ?_⟩
  · exact (x2.gr (K := X.K) r1).sqT (k1 p (hL1 p hp))
  · have eq : Mini.sortD (L.map fun p => tI p.2) = Mini.sortD (Mini.nubD ((ks.map (·.2)).map tI)) := by
      rw [nub_tI, show (L.map fun p => tI p.2) = (L.map (·.2)).map tI by rw [List.map_map]; rfl]
      refine sortD_perm ((List.perm_ext_iff_of_nodup nd (nubI_nodup _)).mpr fun z => ?_)
      rw [nubI_mem]
      constructor
      · intro hz
        obtain ⟨p, hp, rfl⟩ := List.mem_map.mp hz
        exact List.mem_map_of_mem (hL1 p hp)
      · intro hz
        obtain ⟨p, hp, rfl⟩ := List.mem_map.mp hz
        exact hL2 p hp
    rw [eq, ← exs] at p3
    have xr : Ext ρ1 ρ1 H1 H3 := r1.trans r2 x2 g3.ext
    obtain ⟨pp, rfl, h0, hn, r4, c⟩ := fre_own p3 ho g3 r2
    have x12 := ev.sr.trans r1 x1 xr
    exact qk ρ1 H3 pp x12 (none_back ev.sr (ev.sr.trans r1 x1 x2) r2 h0) hn r4 c
end
end Snd
end

section
set_option autoImplicit false
set_option Elab.async false
set_option linter.all false
set_option maxRecDepth 100000
set_option maxHeartbeats 4000000
/-! Snd39: the rules with texts of their own; new values to names. -/
namespace Snd
open PySem PySem.Spec PyProof.Rows L2
open Mini (D Sl T Fl Cfg evE evEs evC evKs)
section
variable {fad : Nat → Addr} {P : Mini.Prog} {d : Nat}
theorem spB : SpB fad P d := fun A => ⟨call_reprV A.gd A.un, fun hg hm hg2 hm2 he hs => pe_srtS A.calm A.un hg hm hg2 hm2 he hs, fun hg hm hg2 hm2 he hs => pe_srtL A.calm A.un hg hm hg2 hm2 he hs⟩
theorem gd (t : T) : Good fad P d t := good spB t
theorem sw_kind {sc : Scope} {x : Str} {p : Pos} {e : Expr} (h : swB sc x p e = true) : sc.names.lookup x = some .local := by
  unfold swB at h
  split at h
  · simp only [Bool.and_eq_true, kindC, decide_eq_true_eq] at h
    exact h.1.1
  · cases h
theorem sw_comp {sc : Scope} {x : Str} {p : Pos} {e : Expr} (h : swB sc x p e = true) : (compS e).isSome = true := by
  unfold swB at h
  split at h
  · rename_i q; rw [q]; rfl
  · cases h
theorem fr_lc (own : List Nat) {e tg i cs : T} {X : Cx} {c : Mc} {sc : Scope} {it bw : Bool} {ex : Expr} (A : At X fad P d c sc) (S : SpOk X fad) (hk : sc.kind = .function) {n : Nat} {x : Str} {px pos : Pos} (hi : X.N[n]? = some x) (hx : X.env.scope.names.lookup x = some .local)
    (hw : swB sc x px ex = true) (h : mE c sc it bw (.lc own e tg i cs) ex = true) : PS X (.Assign [.Name x px] ex pos) (tSet X n (tFr X fad (evE ⟨P.consts, Mini.callP P d⟩ bw (.lc own e tg i cs)))) := by
  match ex, h with
  | .ListComp ee [⟨et, ei, ifs, 0⟩] scope p, h =>
    have h' : (noSet ei && (!isPair i || isTup et) && blkC c.N sc scope (ownC c.N own) && decide ((ownC c.N own).map (·.2) = own) && mE c sc true true i ei && tgC c (relS scope sc) (some scope) tg et && decide (ifs.length ≤ 1) && mEs c (relS scope sc) true cs ifs &&
      mE c (relS scope sc) false false e ee && (tgIx tg).all own.contains) = true := h
    simp only [Bool.and_eq_true, decide_eq_true_eq, Bool.or_eq_true, Bool.not_eq_true'] at h'
    obtain ⟨⟨⟨⟨⟨⟨⟨⟨⟨h1, h2⟩, h3⟩, h4⟩, h5⟩, h6⟩, h7⟩, h8⟩, h9⟩, h10⟩ := h'
    have h2 : isPair i = true → isTup et = true := fun z => h2.elim (fun q => by rw [z] at q; cases q) id
    rw [ev_lc, ← h4]
    have ok : BlkOk X.N X.env.scope scope (ownC c.N own) := by rw [A.N, A.sc]; exact blk_ok h3
    refine (ps_setLc A.calm A.nd hi hx (by rw [swB_ok A.sc hk, hw]) ((gd i).it A S h5 h2) ok (g := tFG X fad tg) (tt := tFC X fad (evC ⟨P.consts, Mini.callP P d⟩ cs)) (te := tF X.K fad .val (evE ⟨P.consts, Mini.callP P d⟩ false e)) (fun s H C cl fp => ?_) (fun s H C cl fp => ?_) (fun s H C cl fp => ?_) (noSetIt h1)).imp fun E σ H h => tLc_F (by rw [h4]; exact sub_own h10) h
    · exact pg_blk ((tg_ok (A.blk s H scope cl C fp) blk_fn tg).1 et h6).1
    · exact pts_ok (fun a _ => gd a) (A.blk s H scope cl C fp) (spB (A.blk s H scope cl C fp)) h7 h8
    · exact (gd e).ge (A.blk s H scope cl C fp) (spB (A.blk s H scope cl C fp)) (notIt h9) h9
theorem fr_dc (own : List Nat) {k v tg i cs : T} {X : Cx} {c : Mc} {sc : Scope} {it bw : Bool} {ex : Expr} (A : At X fad P d c sc) (S : SpOk X fad) (hk : sc.kind = .function) {n : Nat} {x : Str} {px pos : Pos} (hi : X.N[n]? = some x) (hx : X.env.scope.names.lookup x = some .local)
    (hw : swB sc x px ex = true) (h : mE c sc it bw (.dc own k v tg i cs) ex = true) : PS X (.Assign [.Name x px] ex pos) (tSet X n (tFr X fad (evE ⟨P.consts, Mini.callP P d⟩ bw (.dc own k v tg i cs)))) := by
  match ex, h with
  | .DictComp ek ev [⟨et, ei, ifs, 0⟩] scope p, h =>
    have h' : (noSet ei && (!isPair i || isTup et) && blkC c.N sc scope (ownC c.N own) && decide ((ownC c.N own).map (·.2) = own) && mE c sc true true i ei && tgC c (relS scope sc) (some scope) tg et && decide (ifs.length ≤ 1) && mEs c (relS scope sc) true cs ifs &&
      mE c (relS scope sc) false false k ek && mE c (relS scope sc) false false v ev && (tgIx tg).all own.contains) = true := h
    simp only [Bool.and_eq_true, decide_eq_true_eq, Bool.or_eq_true, Bool.not_eq_true'] at h'
    obtain ⟨⟨⟨⟨⟨⟨⟨⟨⟨⟨h1, h2⟩, h3⟩, h4⟩, h5⟩, h6⟩, h7⟩, h8⟩, h9⟩, h10⟩, h11⟩ := h'
    have h2 : isPair i = true → isTup et = true := fun z => h2.elim (fun q => by rw [z] at q; cases q) id
    rw [ev_dc, ← h4]
    have ok : BlkOk X.N X.env.scope scope (ownC c.N own) := by rw [A.N, A.sc]; exact blk_ok h3
    refine (DcX.ps_setDcT A.calm (by have := A.un; omega) A.nd hi hx (by rw [swB_ok A.sc hk, hw]) ((gd i).it A S h5 h2) ok (g := tFG X fad tg) (tt := tFC X fad (evC ⟨P.consts, Mini.callP P d⟩ cs)) (tk := tF X.K fad .val (evE ⟨P.consts, Mini.callP P d⟩ false k)) (tv := tF X.K fad .val (evE ⟨P.consts, Mini.callP P d⟩ false v)) (fun s H C cl fp => ?_) (fun s H C cl fp => ?_) (fun s H C cl fp => ?_) (fun s H C cl fp => ?_) (noSetIt h1)).imp fun E σ H h => tDc_F (by rw [h4]; exact sub_own h11) h
    · exact pg_blk ((tg_ok (A.blk s H scope cl C fp) blk_fn tg).1 et h6).1
    · exact pts_ok (fun a _ => gd a) (A.blk s H scope cl C fp) (spB (A.blk s H scope cl C fp)) h7 h8
    · exact (gd k).ge (A.blk s H scope cl C fp) (spB (A.blk s H scope cl C fp)) (notIt h9) h9
    · exact (gd v).ge (A.blk s H scope cl C fp) (spB (A.blk s H scope cl C fp)) (notIt h10) h10
theorem fr_lc2 (own vs1 : List Nat) {e tg i cs tg1 i1 cs1 : T} {X : Cx} {c : Mc} {sc : Scope} {it bw : Bool} {ex : Expr} (A : At X fad P d c sc) (S : SpOk X fad) (hk : sc.kind = .function) {n : Nat} {x : Str} {px pos : Pos} (hi : X.N[n]? = some x) (hx : X.env.scope.names.lookup x = some .local)
    (hw : swB sc x px ex = true) (h : mE c sc it bw (.lc2 own vs1 e tg i cs tg1 i1 cs1) ex = true) : PS X (.Assign [.Name x px] ex pos) (tSet X n (tFr X fad (evE ⟨P.consts, Mini.callP P d⟩ bw (.lc2 own vs1 e tg i cs tg1 i1 cs1)))) := by
  match ex, h with
  | .ListComp ee [⟨et, ei, ifs, 0⟩, ⟨et1, ei1, ifs1, 0⟩] scope p, h =>
    have h' : (noSet ei && noSet ei1 && (!isPair i || isTup et) && (!isPair i1 || isTup et1) && blkC c.N sc scope (ownC c.N own) && decide ((ownC c.N own).map (·.2) = own) && mE c sc true true i ei &&
      tgC c (relS scope sc) (some scope) tg et && decide (ifs.length ≤ 1) && mEs c (relS scope sc) true cs ifs && mE c (relS scope sc) true false i1 ei1 && tgC c (relS scope sc) (some scope) tg1 et1 && decide (ifs1.length ≤ 1) && mEs c (relS scope sc) true cs1 ifs1 &&
      mE c (relS scope sc) false false e ee && (tgIx tg).all own.contains && (tgIx tg1).all vs1.contains && vs1.all own.contains) = true := h
    simp only [Bool.and_eq_true, decide_eq_true_eq, Bool.or_eq_true, Bool.not_eq_true'] at h'
    obtain ⟨⟨⟨⟨⟨⟨⟨⟨⟨⟨⟨⟨⟨⟨⟨⟨⟨h1, h1'⟩, h2⟩, h2'⟩, h3⟩, h4⟩, h5⟩, h6⟩, h7⟩, h8⟩, k1⟩, k2⟩, k3⟩, k4⟩, h9⟩, h10⟩, k5⟩, k6⟩ := h'
    have h2 : isPair i = true → isTup et = true := fun z => h2.elim (fun q => by rw [z] at q; cases q) id
    have h2' : isPair i1 = true → isTup et1 = true := fun z => h2'.elim (fun q => by rw [z] at q; cases q) id
    rw [ev_lc2, ← h4]
    have ok : BlkOk X.N X.env.scope scope (ownC c.N own) := by rw [A.N, A.sc]; exact blk_ok h3
    have hv : ∀ j ∈ vs1, j ∈ (ownC c.N own).map (·.2) := fun j hj => by
      rw [h4]
      have := List.all_eq_true.mp k6 j hj
      simpa using this
    refine (ps_setLc2 A.calm A.nd hi hx (by rw [swB_ok A.sc hk, hw]) ((gd i).it A S h5 h2) ok hv (g := tFG X fad tg) (tt := tFC X fad (evC ⟨P.consts, Mini.callP P d⟩ cs)) (g1 := tFG X fad tg1) (tt1 := tFC X fad (evC ⟨P.consts, Mini.callP P d⟩ cs1)) (te := tF X.K fad .val (evE ⟨P.consts, Mini.callP P d⟩ false e)) (fun s H C cl fp => ?_) (fun s H C cl fp => ?_) (fun s H C cl fp => (gd i1).it (A.blk s H scope cl C fp) (spB (A.blk s H scope cl C fp)) k1 h2') (fun s H C cl fp => ?_) (fun s H C cl fp => ?_) (fun s H C cl fp => ?_) (noSetIt h1) (noSetIt' h1')).imp fun E σ H h => tLc2_F (by rw [h4]; exact sub_own h10) (sub_own k5) h
    · exact pg_blk ((tg_ok (A.blk s H scope cl C fp) blk_fn tg).1 et h6).1
    · exact pts_ok (fun a _ => gd a) (A.blk s H scope cl C fp) (spB (A.blk s H scope cl C fp)) h7 h8
    · exact pg_blk ((tg_ok (A.blk s H scope cl C fp) blk_fn tg1).1 et1 k2).1
    · exact pts_ok (fun a _ => gd a) (A.blk s H scope cl C fp) (spB (A.blk s H scope cl C fp)) k3 k4
    · exact (gd e).ge (A.blk s H scope cl C fp) (spB (A.blk s H scope cl C fp)) (notIt h9) h9
/-- name = a new value -/
theorem ps_frN {t : T} {X : Cx} {c : Mc} {sc : Scope} {it bw : Bool} {ex : Expr} (A : At X fad P d c sc) (hk : sc.kind = .function) (hf : isFr t = true) {n : Nat} {x : Str} {px pos : Pos} (hi : X.N[n]? = some x) (hx : Loc X.env.scope x) (hfn : X.fn x = true ∨ X.env.scope.names.lookup x = some .local)
    (h : mE c sc it bw t ex = true) : PS X (.Assign [.Name x px] ex pos) (tSet X n (tFr X fad (evE ⟨P.consts, Mini.callP P d⟩ bw t))) := by
  have S : SpOk X fad := spB A
  by_cases hw : swB sc x px ex = true
  · have hl : X.env.scope.names.lookup x = some .local := by rw [A.sc]; exact sw_kind hw
    have hc := sw_comp hw
    cases t with
    | lc own e tg i cs => exact fr_lc own A S hk hi hl hw h
    | dc own k v tg i cs => exact fr_dc own A S hk hi hl hw h
    | lc2 own vs1 e tg i cs tg1 i1 cs1 => exact fr_lc2 own vs1 A S hk hi hl hw h
    | lst as => exfalso; cases ex <;> first | (exact nomatch (show false = true from h)) | (exact nomatch (show false = true from hc))
    | dsp as => exfalso; cases as <;> cases ex <;> first | (exact nomatch (show false = true from h)) | (exact nomatch (show false = true from hc))
    | bin o a b => exfalso; cases ex <;> first | (exact nomatch (show false = true from h)) | (exact nomatch (show false = true from hc))
    | bi o as => exfalso; cases as <;> cases ex <;> first | (exact nomatch (show false = true from h)) | (exact nomatch (show false = true from hc))
    | srtS a => exfalso; cases ex <;> first | (exact nomatch (show false = true from h)) | (exact nomatch (show false = true from hc))
    | srtL a => exfalso; cases ex <;> first | (exact nomatch (show false = true from h)) | (exact nomatch (show false = true from hc))
    | _ => exact nomatch (show false = true from hf)
  · exact ps_setF A.nd hi hx ((gd t).gf A S hf h) (by rw [swB_ok A.sc hk]; simp only [Bool.not_eq_true] at hw; rw [hw]) hfn
end
end Snd
end

section
set_option autoImplicit false
set_option Elab.async false
set_option linter.all false
set_option maxRecDepth 100000
set_option maxHeartbeats 4000000
/-! Snd40: the evaluator's equations of statements; values in a row. -/
namespace Snd
open PySem PySem.Spec PyProof.Rows L2
open Mini (D Sl T Fl Cfg evE evEs evC evKs evS evSs evP)
section
variable {C : Cfg}
theorem es_asg (tg e : T) : evS C (.asg tg e) = asgF tg (evE C false e) := by funext env st; simp only [evS]
theorem es_asgO (i : Nat) (e : T) : evS C (.asgO i e) = asgOF i (evE C false e) := by funext env st; simp only [evS]
theorem es_asgM (m k e : T) : evS C (.asgM m k e) = asgMF (evE C false m) (evE C true k) (evE C false e) := by funext env st; simp only [evS] <;> rfl
theorem es_setI (i : Nat) (k e : T) : evS C (.setI i k e) = setIF i (evE C false k) (evE C false e) := by funext env st; simp only [evS] <;> rfl
theorem es_app (i : Nat) (e : T) : evS C (.app i e) = appF i (evE C false e) := by funext env st; simp only [evS] <;> rfl
theorem es_aug (i : Nat) (o : Mini.Bin) (e : T) : evS C (.aug i o e) = fun env st => (Mini.slotV env[i]?).bind fun x => (evE C true e env st).bind fun (y, s1) => match x, y with
      | .int _, .int _ => (Mini.binD o x y).bind fun z => (Mini.setV env i (.sh z)).map fun env' => (.nx, env', s1)
      | _, _ => none := by funext env st; simp only [evS] <;> rfl
theorem es_par (tgs is : T) : evS C (.par tgs is) = fun env st => (evP C is env st).bind fun (xs, s1) => (Mini.setPs tgs xs env).map fun env' => (.nx, env', s1) := by funext env st; simp only [evS]
theorem es_retv (i : Nat) : evS C (.ret (.var i)) = fun env st => (Mini.slotB env[i]?).map fun x => (.rt x, env, st) := by funext env st; simp only [evS]
theorem es_ret (e : T) (h : isVar e = false) : evS C (.ret e) = fun env st => (evE C false e env st).bind fun (x, s1) => some (.rt x, env, s1) := by
  funext env st
  cases e <;> first | (exact nomatch (show true = false from h)) | (simp only [evS]; done) | (simp only [evS]; rfl) | (rw [evS]; rfl)
theorem es_exp (e : T) : evS C (.exp e) = fun env st => (evE C true e env st).map fun (_, s1) => (.nx, env, s1) := by funext env st; simp only [evS]
theorem es_ifs (c a b : T) : evS C (.ifs c a b) = fun env st => (evE C true c env st).bind fun (x, s1) => (Mini.tru x).bind fun t => if t then evSs C a env s1 else evSs C b env s1 := by funext env st; simp only [evS]
theorem es_for (tg it b : T) : evS C (.for_ tg it b) = fun env st => (evE C false it env st).bind fun (x, s1) => (Mini.seqD x).bind fun xs => Mini.forGo (fun d env st => (Mini.asgT tg d env).bind fun env' => evSs C b env' st) xs env s1 := by funext env st; simp only [evS]
theorem es_whl (c b : T) : evS C (.whl c b) = Mini.whlGo (evE C true c) (evSs C b) Mini.BIG := by funext env st; simp only [evS]
theorem es_brk : evS C .brk = fun env st => some (.bk, env, st) := by funext env st; simp only [evS]
theorem es_cnt : evS C .cnt = fun env st => some (.ct, env, st) := by funext env st; simp only [evS]
theorem es_pas : evS C .pas = fun env st => some (.nx, env, st) := by funext env st; simp only [evS]
theorem es_fz (i : Nat) : evS C (.fz i) = fzF i := by funext env st; simp only [evS] <;> rfl
theorem es_non : evS C .nil = fun _ _ => none := by funext env st; simp only [evS]
theorem ss_nil : evSs C .nil = fun env st => some (.nx, env, st) := by funext env st; simp only [evSs]
theorem ss_cons (s r : T) : evSs C (.cons s r) = seqF (evS C s) (evSs C r) := by
  funext env st
  rw [evSs] <;> rfl
theorem ep_nil : evP C .nil = fun _ st => some ([], st) := by funext env st; simp only [evP]
theorem ep_frs (e r : T) : evP C (.cons (.frs e) r) = fun env st => (evE C false e env st).bind fun (x, s1) => if Mini.ownable x then (evP C r env s1).bind fun (xs, s2) => some (.ow x :: xs, s2) else none := by funext env st; simp only [evP]
theorem ep_sh (a r : T) (h : ∀ e, a ≠ .frs e) : evP C (.cons a r) = fun env st => (evE C false a env st).bind fun (x, s1) => (evP C r env s1).bind fun (xs, s2) => some (.sh x :: xs, s2) := by
  funext env st
  cases a <;> first | (exact absurd rfl (h _)) | (simp only [evP]; done) | (rw [evP]; done) | (simp only [evP]; rfl)
end
section
variable {fad : Nat → Addr} {P : Mini.Prog} {d : Nat}
theorem its_ok {X : Cx} {c : Mc} {sc : Scope} (A : At X fad P d c sc) : ∀ {is : T} {es : List Expr}, itsC c sc is es = true → PA X es (tFP X fad (evP ⟨P.consts, Mini.callP P d⟩ is))
  | .nil, [], _ => by rw [ep_nil]; exact pp_nil
  | .cons a r, ee :: es, h => by
    by_cases hfr : ∃ e, a = T.frs e
    · obtain ⟨e, rfl⟩ := hfr
      have h : (isFr e && mE c sc false false e ee && itsC c sc r es) = true := h
      simp only [Bool.and_eq_true] at h
      obtain ⟨⟨h1, h2⟩, h3⟩ := h
      rw [ep_frs]
      exact pp_ow ((gd e).gf A (spB A) h1 h2) (its_ok A h3) (mE_star h2)
    · have hne : ∀ e, a ≠ T.frs e := fun e z => hfr ⟨e, z⟩
      have h : (mE c sc false false a ee && itsC c sc r es) = true := by
        cases a <;> first | exact h | exact absurd rfl (hne _)
      simp only [Bool.and_eq_true] at h
      rw [ep_sh a r hne]
      exact pp_sh ((gd a).ge A (spB A) (notIt h.1) h.1) (its_ok A h.2) (mE_star h.1)
  | .nil, _ :: _, h => nomatch (show false = true from h)
  | .cons a _, [], h => by cases a <;> exact nomatch (show false = true from h)
  | .cst _, es, h => by cases es <;> exact nomatch (show false = true from h)
  | .var _, es, h => by cases es <;> exact nomatch (show false = true from h)
  | .glo _, es, h => by cases es <;> exact nomatch (show false = true from h)
  | .fnv _, es, h => by cases es <;> exact nomatch (show false = true from h)
  | .bin _ _ _, es, h => by cases es <;> exact nomatch (show false = true from h)
  | .neg _, es, h => by cases es <;> exact nomatch (show false = true from h)
  | .nt _, es, h => by cases es <;> exact nomatch (show false = true from h)
  | .and _ _, es, h => by cases es <;> exact nomatch (show false = true from h)
  | .or _ _, es, h => by cases es <;> exact nomatch (show false = true from h)
  | .ife _ _ _, es, h => by cases es <;> exact nomatch (show false = true from h)
  | .cmp _ _ _, es, h => by cases es <;> exact nomatch (show false = true from h)
  | .chn _ _ _ _ _, es, h => by cases es <;> exact nomatch (show false = true from h)
  | .call _ _, es, h => by cases es <;> exact nomatch (show false = true from h)
  | .callK _ _ _ _ _, es, h => by cases es <;> exact nomatch (show false = true from h)
  | .callV _ _, es, h => by cases es <;> exact nomatch (show false = true from h)
  | .bi _ _, es, h => by cases es <;> exact nomatch (show false = true from h)
  | .srtS _, es, h => by cases es <;> exact nomatch (show false = true from h)
  | .srtL _, es, h => by cases es <;> exact nomatch (show false = true from h)
  | .ix _ _, es, h => by cases es <;> exact nomatch (show false = true from h)
  | .slc _ _ _, es, h => by cases es <;> exact nomatch (show false = true from h)
  | .tup _, es, h => by cases es <;> exact nomatch (show false = true from h)
  | .lst _, es, h => by cases es <;> exact nomatch (show false = true from h)
  | .dsp _, es, h => by cases es <;> exact nomatch (show false = true from h)
  | .pair _ _, es, h => by cases es <;> exact nomatch (show false = true from h)
  | .lc _ _ _ _ _, es, h => by cases es <;> exact nomatch (show false = true from h)
  | .lc2 _ _ _ _ _ _ _ _ _, es, h => by cases es <;> exact nomatch (show false = true from h)
  | .dc _ _ _ _ _ _, es, h => by cases es <;> exact nomatch (show false = true from h)
  | .get2 _ _ _, es, h => by cases es <;> exact nomatch (show false = true from h)
  | .rng1 _, es, h => by cases es <;> exact nomatch (show false = true from h)
  | .rng2 _ _, es, h => by cases es <;> exact nomatch (show false = true from h)
  | .enm _, es, h => by cases es <;> exact nomatch (show false = true from h)
  | .zip _ _, es, h => by cases es <;> exact nomatch (show false = true from h)
  | .asg _ _, es, h => by cases es <;> exact nomatch (show false = true from h)
  | .asgO _ _, es, h => by cases es <;> exact nomatch (show false = true from h)
  | .asgM _ _ _, es, h => by cases es <;> exact nomatch (show false = true from h)
  | .aug _ _ _, es, h => by cases es <;> exact nomatch (show false = true from h)
  | .app _ _, es, h => by cases es <;> exact nomatch (show false = true from h)
  | .setI _ _ _, es, h => by cases es <;> exact nomatch (show false = true from h)
  | .frs _, es, h => by cases es <;> exact nomatch (show false = true from h)
  | .par _ _, es, h => by cases es <;> exact nomatch (show false = true from h)
  | .ret _, es, h => by cases es <;> exact nomatch (show false = true from h)
  | .exp _, es, h => by cases es <;> exact nomatch (show false = true from h)
  | .ifs _ _ _, es, h => by cases es <;> exact nomatch (show false = true from h)
  | .for_ _ _ _, es, h => by cases es <;> exact nomatch (show false = true from h)
  | .whl _ _, es, h => by cases es <;> exact nomatch (show false = true from h)
  | .brk, es, h => by cases es <;> exact nomatch (show false = true from h)
  | .cnt, es, h => by cases es <;> exact nomatch (show false = true from h)
  | .pas, es, h => by cases es <;> exact nomatch (show false = true from h)
  | .fz _, es, h => by cases es <;> exact nomatch (show false = true from h)
/-- the names of a par -/
def qsOf : T → List Expr → List (Nat × Str × Pos)
  | .cons (.var i) r, .Name x p :: es => (i, x, p) :: qsOf r es
  | _, _ => []
theorem nms_ok {N : List Str} {sc : Scope} : ∀ {tgs : T} {es : List Expr}, nmsC N sc tgs es = true → es = (qsOf tgs es).map (fun q => Expr.Name q.2.1 q.2.2) ∧ idxs tgs = (qsOf tgs es).map (·.1) ∧ (∀ q ∈ qsOf tgs es, N[q.1]? = some q.2.1 ∧ stoC sc none q.2.1 = true) ∧ ∀ (xs : List Sl) (env : Mini.Env), Mini.setPs tgs xs env = setSl env (idxs tgs) xs := by
  intro tgs
  induction tgs with
  | nil =>
    intro es h
    cases es with
    | nil => exact ⟨rfl, rfl, by simp [qsOf], fun xs env => by cases xs <;> rfl⟩
    | cons e es => exact nomatch (show false = true from h)
  | cons a r iha ihr =>
    intro es h
    cases a with
    | var i =>
      cases es with
      | nil => exact nomatch (show false = true from h)
      | cons e es =>
        cases e with
        | Name x p =>
          have h : (decide (N[i]? = some x) && stoC sc none x && nmsC N sc r es) = true := h
          simp only [Bool.and_eq_true, decide_eq_true_eq] at h
          obtain ⟨⟨h1, h2⟩, h3⟩ := h
          obtain ⟨k1, k2, k3, k4⟩ := ihr h3
          refine ⟨?_, ?_, fun q hq => ?_, fun xs env => ?_⟩
          · simp only [qsOf, List.map_cons]
            rw [← k1]
          · simp only [qsOf, List.map_cons, idxs]
            rw [← k2]
          · simp only [qsOf, List.mem_cons] at hq
            rcases hq with rfl | hq
            · exact ⟨h1, h2⟩
            · exact k3 q hq
          · cases xs with
            | nil => rfl
            | cons y ys =>
              show (Mini.setV env i y).bind (fun env' => Mini.setPs r ys env') = (Mini.setV env i y).bind fun env' => setSl env' (idxs r) ys
              congr 1
              funext env'
              exact k4 ys env'
        | _ => exact nomatch (show false = true from h)
    | _ => cases es <;> exact nomatch (show false = true from h)
  | _ => intro es h; cases es <;> exact nomatch (show false = true from h)
end
end Snd
end

section
set_option autoImplicit false
set_option Elab.async false
set_option linter.all false
set_option maxRecDepth 100000
set_option maxHeartbeats 400000
/-! Snd41: statements that match run as the evaluator tells. -/
namespace Snd
open PySem PySem.Spec PyProof.Rows L2
open Mini (D Sl T Fl Cfg evE evEs evC evKs evS evSs evP)
section
variable {fad : Nat → Addr} {P : Mini.Prog} {d : Nat}
/-- a def's body is run -/
structure AtB (X : Cx) (fad : Nat → Addr) (P : Mini.Prog) (d : Nat) (c : Mc) (sc : Scope) : Prop where
  at_ : At X fad P d c sc
  kd : sc.kind = .function
  fn : ∀ x, X.fn x = true
  ps : PassesOwn (model X.prog X.w) X.A X.env X.xe
structure GoodS (fad : Nat → Addr) (P : Mini.Prog) (d : Nat) (t : T) : Prop where
  g1 : ∀ {X : Cx} {c : Mc} {sc : Scope} {stm : Stmt}, AtB X fad P d c sc → mS c sc t stm = true → PS X stm (tFS X fad (evS ⟨P.consts, Mini.callP P d⟩ t))
  gs : ∀ {X : Cx} {c : Mc} {sc : Scope} {sts : List Stmt}, AtB X fad P d c sc → mSs c sc t sts = true → PSs X sts (tFS X fad (evSs ⟨P.consts, Mini.callP P d⟩ t))
theorem GoodS.stm {t : T} (h2 : ∀ c sc sts, mSs c sc t sts = false) (h1 : ∀ {X : Cx} {c : Mc} {sc : Scope} {stm : Stmt}, AtB X fad P d c sc → mS c sc t stm = true → PS X stm (tFS X fad (evS ⟨P.consts, Mini.callP P d⟩ t))) : GoodS fad P d t :=
  ⟨h1, fun _ h => by rw [h2] at h; cases h⟩
theorem GoodS.no {t : T} (h2 : ∀ c sc sts, mSs c sc t sts = false) (h1 : ∀ c sc stm, mS c sc t stm = false) : GoodS fad P d t := .stm h2 fun _ h => by rw [h1] at h; cases h
theorem AtB.sto {X : Cx} {c : Mc} {sc : Scope} (B : AtB X fad P d c sc) {x : Str} (h : stoC sc none x = true) : Loc X.env.scope x ∧ (X.fn x = true ∨ X.env.scope.names.lookup x = some .local) := sto_ok B.at_ (fun x _ => B.fn x) h
theorem noC_of {e : Expr} (h : compS e = none) : NoC e := ⟨(fun a b c d z => by subst z; cases h), (fun a b c d z => by subst z; cases h), (fun a b c d f z => by subst z; cases h)⟩
theorem noC {e : Expr} (h : (!(compS e).isSome) = true) : NoC e := noC_of (by
  cases q : compS e with
  | none => rfl
  | some s => rw [q] at h; cases h)
/-- how a statement matches -/
inductive MS (c : Mc) (sc : Scope) : T → Stmt → Prop
  | nil (stm : Stmt) : MS c sc .nil stm
  | asgV {i : Nat} {e : T} {x : Str} {p : Pos} {ee : Expr} {pos : Pos} : (decide (c.N[i]? = some x) && stoC sc none x && mE c sc false false e ee && (!(compS ee).isSome || isFr e)) = true → MS c sc (.asg (.var i) e) (.Assign [.Name x p] ee pos)
  | asgT {ts e : T} {es : List Expr} {k : Nat} {p : Pos} {ee : Expr} {pos : Pos} : (tgC c sc none (.tup ts) (.Tuple es k p) && notTup ee && mE c sc false false e ee && !(compS ee).isSome) = true → MS c sc (.asg (.tup ts) e) (.Assign [.Tuple es k p] ee pos)
  | asgO {i : Nat} {e : T} {x : Str} {p : Pos} {ee : Expr} {pos : Pos} : (decide (c.N[i]? = some x) && stoC sc none x && isFr e && mE c sc false false e ee) = true → MS c sc (.asgO i e) (.Assign [.Name x p] ee pos)
  | asgM {m k e : T} {em ek : Expr} {p : Pos} {ee : Expr} {pos : Pos} : (mE c sc false false m em && mE c sc false true k ek && mE c sc false false e ee && !(compS ee).isSome) = true → MS c sc (.asgM m k e) (.Assign [.Subscript em ek p] ee pos)
  | setI {i : Nat} {k e : T} {x : Str} {p1 p : Pos} {ek ee : Expr} {pos : Pos} : (varC c sc i x && mE c sc false false k ek && mE c sc false false e ee && !(compS ee).isSome) = true → MS c sc (.setI i k e) (.Assign [.Subscript (.Name x p1) ek p] ee pos)
  | aug {i : Nat} {o : Mini.Bin} {e : T} {x : Str} {p : Pos} {op : Operator} {ee : Expr} {pos : Pos} : (decide (c.N[i]? = some x) && stoC sc none x && augC o op && mE c sc false true e ee) = true → MS c sc (.aug i o e) (.AugAssign (.Name x p) op ee pos)
  | app {i : Nat} {e : T} {x a : Str} {p1 ap cp : Pos} {ee : Expr} {pos : Pos} : (decide (a = "append") && varC c sc i x && (ap.endLine == cp.line) && mE c sc false false e ee) = true → MS c sc (.app i e) (.Expr (.Call (.Attribute (.Name x p1) a ap) [ee] [] cp) pos)
  | par {tgs is : T} {ets es : List Expr} {k1 k2 : Nat} {p1 p2 pos : Pos} : (nmsC c.N sc tgs ets && itsC c sc is es && decide (ets.length ≤ 15) && decide (idxs tgs).Nodup && (match swS sc ets es with
      | none => false
      | some none => true
      | some (some _) => ets.length == 2 || ets.length == 3)) = true → MS c sc (.par tgs is) (.Assign [.Tuple ets k1 p1] (.Tuple es k2 p2) pos)
  | retV {i : Nat} {x : Str} {p pos : Pos} : varC c sc i x = true → MS c sc (.ret (.var i)) (.Return (some (.Name x p)) pos)
  | retN {pos : Pos} : MS c sc (.ret (.cst .non)) (.Return none pos)
  | ret {e : T} {ee : Expr} {pos : Pos} : (!isVar e && mE c sc false false e ee) = true → MS c sc (.ret e) (.Return (some ee) pos)
  | exp {e : T} {ee : Expr} {pos : Pos} : (mE c sc false true e ee && !(compS ee).isSome) = true → MS c sc (.exp e) (.Expr ee pos)
  | ifs {k a b : T} {ek : Expr} {ea eb : List Stmt} {pos : Pos} : (mE c sc false true k ek && mSs c sc a ea && mSs c sc b eb) = true → MS c sc (.ifs k a b) (.If ek ea eb pos)
  | for_ {tg i b : T} {et ei : Expr} {eb : List Stmt} {pos : Pos} : (noSet ei && (!isPair i || isTup et) && mE c sc true false i ei && tgC c sc none tg et && mSs c sc b eb) = true → MS c sc (.for_ tg i b) (.For et ei eb [] pos)
  | whl {k b : T} {ek : Expr} {eb : List Stmt} {pos : Pos} : (mE c sc false true k ek && mSs c sc b eb) = true → MS c sc (.whl k b) (.While ek eb [] pos)
  | brk {pos : Pos} : MS c sc .brk (.Break pos)
  | cnt {pos : Pos} : MS c sc .cnt (.Continue pos)
  | pas {pos : Pos} : MS c sc .pas (.Pass pos)
theorem mS_inv {c : Mc} {sc : Scope} {t : T} {stm : Stmt} (h : mS c sc t stm = true) : MS c sc t stm := by
  unfold mS at h
  split at h
  · exact .nil _
  · exact .asgV h
  · exact .asgT h
  · exact .asgO h
  · exact .asgM h
  · exact .setI h
  · exact .aug h
  · exact .app h
  · exact .par h
  · exact .retV h
  · exact .retN
  · exact .ret h
  · exact .exp h
  · exact .ifs h
  · exact .for_ h
  · exact .whl h
  · exact .brk
  · exact .cnt
  · exact .pas
  · cases h
theorem comp_cases {c : Mc} {sc : Scope} {it bw : Bool} {t : T} {ex : Expr} (h : mE c sc it bw t ex = true) (hc : (compS ex).isSome = true) : (∃ own e tg i cs, t = .lc own e tg i cs) ∨ (∃ own k v tg i cs, t = .dc own k v tg i cs) ∨ ∃ own vs1 e tg i cs tg1 i1 cs1, t = .lc2 own vs1 e tg i cs tg1 i1 cs1 := by
  unfold mE at h
  split at h <;> first | (exact nomatch (show false = true from hc)) | (exact .inl ⟨_, _, _, _, _, rfl⟩) | (exact .inr (.inl ⟨_, _, _, _, _, _, rfl⟩)) | (exact .inr (.inr ⟨_, _, _, _, _, _, _, _, _, rfl⟩)) | (cases h; done) | skip
theorem gs_asg (tg e : T) : GoodS fad P d (.asg tg e) := by
  refine .stm (fun c sc sts => by cases sts <;> rfl) fun {X c sc stm} B h => ?_
  have S : SpOk X fad := spB B.at_
  rw [es_asg]
  cases mS_inv h with
  | @asgV i e x p ee pos hq =>
      have h := hq
      simp only [Bool.and_eq_true, decide_eq_true_eq] at h
      obtain ⟨⟨⟨h1, h2⟩, h3⟩, h4⟩ := h
      have hi : X.N[i]? = some x := by rw [B.at_.N]; exact h1
      obtain ⟨l, f⟩ := B.sto h2
      cases hc : compS ee with
      | none =>
        refine ps_asgF ((ps_asg (pos := pos) ((gd e).ge B.at_ S (notIt h3) h3) (pg_varF (fad := fad) (pos := p) B.at_.nd hi l f) ?_ (by cases ee <;> rfl) (by rfl)).imp fun E σ H q => q)
        show swapsWith ee (some (.Name x p)) pos.line X.env = pure false
        exact (noC_of hc).sw
      | some s =>
        have hf : isFr e = true := by rw [hc] at h4; simpa using h4
        refine ps_asgC (fun env st d' st' e' => ?_) (ps_frN B.at_ B.kd hf hi l f h3)
        rcases comp_cases h3 (by rw [hc]; rfl) with ⟨_, _, _, _, _, rfl⟩ | ⟨_, _, _, _, _, _, rfl⟩ | ⟨_, _, _, _, _, _, _, _, _, rfl⟩
        · rw [ev_lc] at e'; exact lc_own env st d' st' e'
        · rw [ev_dc] at e'; exact dc_own env st d' st' e'
        · rw [ev_lc2] at e'; exact lc2_own env st d' st' e'
  | @asgT ts e es k p ee pos hq =>
      have h := hq
      simp only [Bool.and_eq_true] at h
      obtain ⟨⟨⟨h1, h2⟩, h3⟩, h4⟩ := h
      have hg := ((tg_ok B.at_ (fun x _ => B.fn x) (.tup ts)).1 _ h1).1
      refine ps_asgF ((ps_asg (pos := pos) ((gd e).ge B.at_ S (notIt h3) h3) hg ?_ ?_ (by rfl)).imp fun E σ H q => q)
      · show swapsWith ee (some (.Tuple es k p)) pos.line X.env = pure false
        exact (noC h4).sw
      · cases ee <;> first | rfl | (exact nomatch (show false = true from h2))
end
end Snd
end

section
set_option autoImplicit false
set_option Elab.async false
set_option linter.all false
set_option maxRecDepth 100000
set_option maxHeartbeats 400000
/-! Snd41: statements that match run as the evaluator tells. -/
namespace Snd
open PySem PySem.Spec PyProof.Rows L2
open Mini (D Sl T Fl Cfg evE evEs evC evKs evS evSs evP)
section
variable {fad : Nat → Addr} {P : Mini.Prog} {d : Nat}
theorem gs_asgO (i : Nat) (e : T) : GoodS fad P d (.asgO i e) := by
  refine .stm (fun c sc sts => by cases sts <;> rfl) fun {X c sc stm} B h => ?_
  rw [es_asgO]
  cases mS_inv h with
  | @asgO _ _ x p ee pos hq =>
    have h := hq
    simp only [Bool.and_eq_true, decide_eq_true_eq] at h
    obtain ⟨⟨⟨h1, h2⟩, h3⟩, h4⟩ := h
    obtain ⟨l, f⟩ := B.sto h2
    exact ps_asgO (ps_frN B.at_ B.kd h3 (by rw [B.at_.N]; exact h1) l f h4)
theorem gs_asgM (m k e : T) : GoodS fad P d (.asgM m k e) := by
  refine .stm (fun c sc sts => by cases sts <;> rfl) fun {X c sc stm} B h => ?_
  have S : SpOk X fad := spB B.at_
  rw [es_asgM]
  cases mS_inv h with
  | @asgM _ _ _ em ek p ee pos hq =>
    have h := hq
    simp only [Bool.and_eq_true] at h
    obtain ⟨⟨⟨h1, h2⟩, h3⟩, h4⟩ := h
    exact ps_asgMF (by have := B.at_.un; omega) ((gd m).ge B.at_ S (notIt h1) h1) ((gd k).ge B.at_ S (notIt h2) h2) ((gd e).ge B.at_ S (notIt h3) h3) (noC h4).sw
theorem gs_setI (i : Nat) (k e : T) : GoodS fad P d (.setI i k e) := by
  refine .stm (fun c sc sts => by cases sts <;> rfl) fun {X c sc stm} B h => ?_
  have S : SpOk X fad := spB B.at_
  rw [es_setI]
  cases mS_inv h with
  | @setI _ _ _ x p1 p ek ee pos hq =>
    have h := hq
    simp only [Bool.and_eq_true] at h
    obtain ⟨⟨⟨h1, h2⟩, h3⟩, h4⟩ := h
    obtain ⟨a, b, dd, cd⟩ := B.at_.var h1
    exact ps_setIF (by have := B.at_.un; omega) a b dd cd ((gd k).ge B.at_ S (notIt h2) h2) ((gd e).ge B.at_ S (notIt h3) h3) (noC h4).sw
theorem gs_aug (i : Nat) (o : Mini.Bin) (e : T) : GoodS fad P d (.aug i o e) := by
  refine .stm (fun c sc sts => by cases sts <;> rfl) fun {X c sc stm} B h => ?_
  have S : SpOk X fad := spB B.at_
  rw [es_aug]
  cases mS_inv h with
  | @aug _ _ _ x p op ee pos hq =>
    have h := hq
    simp only [Bool.and_eq_true, decide_eq_true_eq] at h
    obtain ⟨⟨⟨h1, h2⟩, h3⟩, h4⟩ := h
    obtain ⟨l, f⟩ := B.sto h2
    have hi : X.N[i]? = some x := by rw [B.at_.N]; exact h1
    have he := (gd e).ge B.at_ S (notIt h4) h4
    cases o <;> cases op <;> first | (exact nomatch (show false = true from h3)) | skip
    · exact ps_augF B.at_.nd hi l he ip_add (fun a b => rfl) f
    · exact ps_augF B.at_.nd hi l he ip_sub (fun a b => rfl) f
theorem gs_app (i : Nat) (e : T) : GoodS fad P d (.app i e) := by
  refine .stm (fun c sc sts => by cases sts <;> rfl) fun {X c sc stm} B h => ?_
  have S : SpOk X fad := spB B.at_
  rw [es_app]
  cases mS_inv h with
  | @app _ _ x a p1 ap cp ee pos hq =>
    have h := hq
    simp only [Bool.and_eq_true, decide_eq_true_eq] at h
    obtain ⟨⟨⟨h1, h2⟩, h3⟩, h4⟩ := h
    subst h1
    obtain ⟨a, b, dd, cd⟩ := B.at_.var h2
    exact ps_appF a b dd cd ((gd e).ge B.at_ S (notIt h4) h4) (mE_star h4) h3 rfl
end
end Snd
end

section
set_option autoImplicit false
set_option Elab.async false
set_option linter.all false
set_option maxRecDepth 100000
set_option maxHeartbeats 400000
/-! Snd41: statements that match run as the evaluator tells. -/
namespace Snd
open PySem PySem.Spec PyProof.Rows L2
open Mini (D Sl T Fl Cfg evE evEs evC evKs evS evSs evP)
section
variable {fad : Nat → Addr} {P : Mini.Prog} {d : Nat}
theorem qs_names {l : List (Nat × Str × Pos)} {x y : Str} {px py : Pos} (h : [Expr.Name x px, .Name y py] = l.map fun q => Expr.Name q.2.1 q.2.2) : ∃ i j, l = [(i, x, px), (j, y, py)] := by
  match l, h with
  | [(i, a, p), (j, b, q)], h =>
    simp at h
    obtain ⟨⟨rfl, rfl⟩, rfl, rfl⟩ := h
    exact ⟨i, j, rfl⟩
theorem fm_all (kd : Str → Bool) (ln : Nat) : ∀ (l : List (Nat × Str × Pos)), ((l.map fun q => Expr.Name q.2.1 q.2.2).filterMap (nmAt kd ln)).length = l.length →
    (l.map fun q => Expr.Name q.2.1 q.2.2).filterMap (nmAt kd ln) = l.map (·.2.1) ∧ ∀ q ∈ l, kd q.2.1 = true
  | [], _ => ⟨rfl, by simp⟩
  | q :: l, h => by
    have hle := List.length_filterMap_le (nmAt kd ln) (l.map fun q => Expr.Name q.2.1 q.2.2)
    rw [List.length_map] at hle
    rw [List.map_cons, List.filterMap_cons] at h ⊢
    cases hn : nmAt kd ln (.Name q.2.1 q.2.2) with
    | none =>
      rw [hn] at h
      simp only [List.length_cons] at h
      omega
    | some x =>
      rw [hn] at h
      simp only [List.length_cons] at h
      obtain ⟨e1, e2⟩ := fm_all kd ln l (by omega)
      simp only [nmAt] at hn
      split at hn
      · rename_i z
        simp only [Bool.and_eq_true] at z
        cases hn
        refine ⟨by simp only [e1, List.map_cons], fun r hr => ?_⟩
        rcases List.mem_cons.mp hr with rfl | hr
        · exact z.1
        · exact e2 r hr
      · cases hn
theorem gs_par (tgs is : T) : GoodS fad P d (.par tgs is) := by
  refine .stm (fun c sc sts => by cases sts <;> rfl) fun {X c sc stm} B h => ?_
  rw [es_par]
  cases mS_inv h with
  | @par _ _ ets es k1 k2 p1 p2 pos hq =>
    have h := hq; clear hq
    simp only [Bool.and_eq_true, decide_eq_true_eq] at h
    obtain ⟨⟨⟨⟨h1, h2⟩, h3⟩, h4⟩, h5⟩ := h
    obtain ⟨e1, e2, e3, e4⟩ := nms_ok h1
    have ha := its_ok B.at_ h2
    have ef : (fun (env : Mini.Env) (st : Mini.St) => (evP ⟨P.consts, Mini.callP P d⟩ is env st).bind fun (xs, s1) => (Mini.setPs tgs xs env).map fun env' => ((.nx : Fl), env', s1)) = parF ((qsOf tgs ets).map (·.1)) (evP ⟨P.consts, Mini.callP P d⟩ is) := by
      funext env st
      simp only [parF]
      congr 1
      funext x
      obtain ⟨xs, s1⟩ := x
      simp only [e4, e2]
    rw [ef]
    have hq : ∀ q ∈ qsOf tgs ets, X.N[q.1]? = some q.2.1 ∧ Loc X.env.scope q.2.1 ∧ (X.fn q.2.1 = true ∨ X.env.scope.names.lookup q.2.1 = some .local) := fun q hq => by
      obtain ⟨a, b⟩ := e3 q hq
      obtain ⟨l, f⟩ := B.sto b
      exact ⟨by rw [B.at_.N]; exact a, l, f⟩
    rw [e2] at h4
    generalize hl : qsOf tgs ets = l at *
    subst e1
    cases hs : swS sc (l.map fun q => Expr.Name q.2.1 q.2.2) es with
    | none => rw [hs] at h5; cases h5
    | some r =>
      have hw := swS_ok (k1 := k1) (k2 := k2) (p1 := p1) (p2 := p2) B.at_.sc B.kd hs
      cases r with
      | none => exact ps_parB B.at_.calm B.at_.nd (by simpa using h3) hq ha hw
      | some ns =>
        rw [hs] at h5
        -- what is swapped: two or three names, all of them local
        have hsome := hs
        unfold swS at hsome
        split at hsome <;> try (cases hsome; done)
        rename_i g1
        split at hsome <;> try (cases hsome; done)
        split at hsome <;> try (cases hsome; done)
        rename_i g3
        split at hsome <;> try (cases hsome; done)
        split at hsome <;> try (cases hsome; done)
        have ens := (Option.some.inj (Option.some.inj hsome)).symm
        simp only [Bool.or_eq_true, not_or, bne_iff_ne, ne_eq, Decidable.not_not, Bool.not_eq_true', Bool.not_eq_false', beq_iff_eq] at g1 g3
        have gl := g3.1
        rw [List.length_map] at gl
        have hfm := fm_all _ _ l gl
        have hns : ns = l.map (·.2.1) := ens.trans hfm.1
        have hloc := hfm.2
        subst hns
        have lk : ∀ q ∈ l, X.env.scope.names.lookup q.2.1 = some .local := fun q hq' => by
          have := hloc q hq'
          rw [B.at_.sc]
          simpa [kindC] using this
        match l, h5, es, g1 with
        | [(i, x, px), (j, y, py)], _, [a, b], _ =>
          have hij : i ≠ j := by simpa using h4
          exact ps_par2A B.at_.calm B.at_.nd (hq (i, x, px) (by simp)).1 (hq (j, y, py) (by simp)).1 hij (lk (i, x, px) (by simp)) (lk (j, y, py) (by simp)) ha hw
        | [(i, x, px), (j, y, py), (m, z, pz)], _, [a, b, c'], _ =>
          have hn : i ≠ j ∧ i ≠ m ∧ j ≠ m := by simpa [and_assoc] using h4
          exact ps_par3A B.at_.calm B.at_.nd (hq (i, x, px) (by simp)).1 (hq (j, y, py) (by simp)).1 (hq (m, z, pz) (by simp)).1 hn.1 hn.2.1 hn.2.2 (lk (i, x, px) (by simp)) (lk (j, y, py) (by simp)) (lk (m, z, pz) (by simp)) ha hw
end
end Snd
end

section
set_option autoImplicit false
set_option Elab.async false
set_option linter.all false
set_option maxRecDepth 100000
set_option maxHeartbeats 400000
/-! Snd42: all statements. -/
namespace Snd
open PySem PySem.Spec PyProof.Rows L2
open Mini (D Sl T Fl Cfg evE evEs evC evKs evS evSs evP)
section
variable {fad : Nat → Addr} {P : Mini.Prog} {d : Nat}
theorem ps_retnF {X : Cx} {pos : Pos} : PS X (.Return none pos) (tFS X fad fun env st => some (.rt .non, env, st)) := by
  refine ps_retN.imp fun E σ H h => ?_
  obtain ⟨Av0, ρ0, H0, F, ρ, env, st, fl, env', st', v, e, q⟩ := h
  cases e
  have le : ∀ a, Av0 a → OwA Av0 env σ no a := fun a h => .inl h
  exact q ρ H _ v.ext (SR.sub le v.sr) .non
theorem gs_ret (e : T) : GoodS fad P d (.ret e) := by
  refine .stm (fun c sc sts => by cases sts <;> rfl) fun {X c sc stm} B h => ?_
  have S : SpOk X fad := spB B.at_
  cases mS_inv h with
  | @retV i x p pos hq =>
    have h := hq
    rw [es_retv]
    obtain ⟨a, b, dd, cd⟩ := B.at_.var h
    exact ps_retvF a b dd cd
  | @retN pos =>
    rw [es_ret _ rfl, ev_cst]
    exact ps_retnF
  | @ret e ee pos hq =>
    have h := hq
    simp only [Bool.and_eq_true, Bool.not_eq_true'] at h
    rw [es_ret e h.1]
    exact ps_retF ((gd e).ge B.at_ S (notIt h.2) h.2)
theorem gs_exp (e : T) : GoodS fad P d (.exp e) := by
  refine .stm (fun c sc sts => by cases sts <;> rfl) fun {X c sc stm} B h => ?_
  have S : SpOk X fad := spB B.at_
  rw [es_exp]
  cases mS_inv h with
  | @exp _ ee pos hq =>
    have h := hq
    simp only [Bool.and_eq_true] at h
    exact ps_expF ((gd e).ge B.at_ S (notIt h.1) h.1) (noC h.2)
theorem gs_ifs {k a b : T} (ga : GoodS fad P d a) (gb : GoodS fad P d b) : GoodS fad P d (.ifs k a b) := by
  refine .stm (fun c sc sts => by cases sts <;> rfl) fun {X c sc stm} B h => ?_
  have S : SpOk X fad := spB B.at_
  rw [es_ifs]
  cases mS_inv h with
  | @ifs _ _ _ ek ea eb pos hq =>
    have h := hq
    simp only [Bool.and_eq_true] at h
    obtain ⟨⟨h1, h2⟩, h3⟩ := h
    exact ps_ifF ((gd k).gt B.at_ S (notIt h1) h1) (ga.gs B h2) (gb.gs B h3)
theorem gs_for {tg i b : T} (gb : GoodS fad P d b) : GoodS fad P d (.for_ tg i b) := by
  refine .stm (fun c sc sts => by cases sts <;> rfl) fun {X c sc stm} B h => ?_
  have S : SpOk X fad := spB B.at_
  rw [es_for]
  cases mS_inv h with
  | @for_ _ _ _ et ei eb pos hq =>
    have h := hq
    simp only [Bool.and_eq_true, Bool.or_eq_true, Bool.not_eq_true'] at h
    obtain ⟨⟨⟨⟨h1, h2⟩, h3⟩, h4⟩, h5⟩ := h
    have h2 : isPair i = true → isTup et = true := fun z => h2.elim (fun q => by rw [z] at q; cases q) id
    exact ps_forF B.ps B.at_.calm ((gd i).it B.at_ S h3 h2) ((tg_ok B.at_ (fun x _ => B.fn x) tg).1 _ h4).1 (gb.gs B h5) (noSetIt h1)
theorem gs_whl {k b : T} (gb : GoodS fad P d b) : GoodS fad P d (.whl k b) := by
  refine .stm (fun c sc sts => by cases sts <;> rfl) fun {X c sc stm} B h => ?_
  have S : SpOk X fad := spB B.at_
  rw [es_whl]
  cases mS_inv h with
  | @whl _ _ ek eb pos hq =>
    have h := hq
    simp only [Bool.and_eq_true] at h
    exact ps_whlF Mini.BIG B.ps ((gd k).gt B.at_ S (notIt h.1) h.1) (gb.gs B h.2)
theorem gs_brk : GoodS fad P d .brk := by
  refine .stm (fun c sc sts => by cases sts <;> rfl) fun {X c sc stm} B h => ?_
  rw [es_brk]
  cases mS_inv h with
  | @brk pos => exact ps_brkF
theorem gs_cnt : GoodS fad P d .cnt := by
  refine .stm (fun c sc sts => by cases sts <;> rfl) fun {X c sc stm} B h => ?_
  rw [es_cnt]
  cases mS_inv h with
  | @cnt pos => exact ps_cntF
theorem gs_pas : GoodS fad P d .pas := by
  refine .stm (fun c sc sts => by cases sts <;> rfl) fun {X c sc stm} B h => ?_
  rw [es_pas]
  cases mS_inv h with
  | @pas pos => exact ps_pasF
theorem gs_nil : GoodS fad P d .nil := by
  refine ⟨fun {X c sc stm} B h => ?_, fun {X c sc sts} B h => ?_⟩
  · rw [es_non]
    refine ⟨fun pins s σ H E I h => ?_⟩
    obtain ⟨Av0, ρ0, H0, F, ρ, env, st, fl, env', st', v, e, q⟩ := h
    cases e
  · rw [ss_nil]
    cases sts with
    | nil => exact pss_nilF
    | cons s r => exact nomatch (show false = true from h)
theorem gs_cons {s r : T} (g : GoodS fad P d s) (gr : GoodS fad P d r) (hn : ∀ i, s ≠ .fz i) : GoodS fad P d (.cons s r) := by
  refine ⟨fun {X c sc stm} B h => ?_, fun {X c sc sts} B h => ?_⟩
  · cases mS_inv h
  · rw [ss_cons]
    cases sts with
    | nil =>
      exfalso
      cases s <;> first | (exact absurd rfl (hn _)) | (exact nomatch (show false = true from h))
    | cons st sts =>
      have h : (mS c sc s st && mSs c sc r sts) = true := by
        cases s <;> first | (exact absurd rfl (hn _)) | exact h
      simp only [Bool.and_eq_true] at h
      exact pss_consF (g.g1 B h.1) (gr.gs B h.2)
theorem gs_fz (i : Nat) {r : T} (gr : GoodS fad P d r) : GoodS fad P d (.cons (.fz i) r) := by
  refine ⟨fun {X c sc stm} B h => ?_, fun {X c sc sts} B h => ?_⟩
  · cases mS_inv h
  · rw [ss_cons, es_fz]
    have h : mSs c sc r sts = true := by cases sts <;> exact h
    exact pss_fzF (gr.gs B h)
theorem gs_all (t : T) : GoodS fad P d t := by
  induction t with
  | nil => exact gs_nil
  | cons a r iha ihr =>
    cases a with
    | fz i => exact gs_fz i ihr
    | _ => exact gs_cons iha ihr (fun i z => nomatch z)
  | asg tg e _ _ => exact gs_asg tg e
  | asgO i e _ => exact gs_asgO i e
  | asgM m k e _ _ _ => exact gs_asgM m k e
  | aug i o e _ => exact gs_aug i o e
  | app i e _ => exact gs_app i e
  | setI i k e _ _ => exact gs_setI i k e
  | par tgs is _ _ => exact gs_par tgs is
  | ret e _ => exact gs_ret e
  | exp e _ => exact gs_exp e
  | ifs k a b _ iha ihb => exact gs_ifs iha ihb
  | for_ tg i b _ _ ihb => exact gs_for ihb
  | whl k b _ ihb => exact gs_whl ihb
  | brk => exact gs_brk
  | cnt => exact gs_cnt
  | pas => exact gs_pas
  | _ => exact GoodS.no (fun c sc sts => by cases sts <;> rfl) (fun c sc stm => by cases q : mS c sc _ stm with | false => rfl | true => cases mS_inv q)
end
end Snd
end

section
set_option autoImplicit false
set_option Elab.async false
set_option linter.all false
set_option maxRecDepth 100000
set_option maxHeartbeats 400000
/-! Snd43: defs that match run as the evaluator tells, to any depth. -/
namespace Snd
open PySem PySem.Spec PyProof.Rows L2
open Mini (D Sl T Fl Cfg evE evEs evC evKs evS evSs evP)
section
variable {fad : Nat → Addr} {P : Mini.Prog} {Pm : Program} {w : World} {K : PySem.W.Frag} {mg : Str → Option Value} {base : Heap} {c : Mc}
/-- def n stands in the module as the evaluator has it -/
structure DefR (K : PySem.W.Frag) (fad : Nat → Addr) (c : Mc) (n : Nat) (F : Mini.Fn) : Prop where
  ex : ∃ (x qual : Str) (params : Arguments) (body : List Stmt) (scope : Scope) (fd : FuncData) (N ps : List Str), FunD K x qual params body scope [] [] (fad n) fd ∧ FnScope N ps scope ∧ mSs { c with N := N } scope F.body body = true ∧ ps.length = F.np ∧ N.length = F.ns ∧
    (∀ (s : Shared) (us : List Value), us.length = ps.length → BindsTo s fd ⟨us, []⟩ (ps.zip us)) ∧ ∀ e ∈ c.kws, e.1 = n → KwB fd ps e.2.1 e.2.2.1 e.2.2.2
/-- what names stand for in the module -/
structure GloR (K : PySem.W.Frag) (fad : Nat → Addr) (P : Mini.Prog) (mg : Str → Option Value) (c : Mc) : Prop where
  fns : ∀ n F, P.fns[n]? = some F → DefR K fad c n F
  fnm : ∀ q ∈ c.fns, mg q.1 = some (.ref (fad q.2)) ∧ ∃ F, P.fns[q.2]? = some F
  cst : ∀ q ∈ c.csts, ∃ v u d, P.consts[q.2]? = some d ∧ Mini.ownable d = false ∧ mg q.1 = some u ∧ RelV v u ∧ ∀ H Bad ρ, Rep K fad H Bad ρ d v
  bt : ∀ x ∈ c.bts, mg x = none
theorem startE_get {F : Mini.Fn} {ds : List D} {i : Nat} {s : Sl} (h : (Mini.startE F ds)[i]? = some s) : (∃ d, ds[i]? = some d ∧ s = .sh d) ∨ s = .un := by
  unfold Mini.startE at h
  by_cases hi : i < (ds.map Sl.sh).length
  · rw [List.getElem?_append_left hi, List.getElem?_map] at h
    obtain ⟨d, h1, h2⟩ := Option.map_eq_some_iff.mp h
    exact .inl ⟨d, h1, h2.symm⟩
  · rw [List.getElem?_append_right (by omega), List.getElem?_replicate] at h
    split at h
    · exact .inr (Option.some.inj h).symm
    · cases h
theorem sv_start {X : Cx} {Av : Addr → Prop} {ρ : List Addr} {H : Hp} {st : Mini.St} {F : Mini.Fn} {ds : List D} {vs : List V} {N : List Str} (sr : SR X.K fad Av ρ H st) (r : RepL X.K fad H (Bd Av ρ) ρ ds vs) (hl : ds.length ≤ F.ns) (hN : N.length = F.ns) :
    SV X fad Av ρ H (fun _ _ _ => False) no ρ H (Mini.startE F ds) (L2.start N vs) st := by
  have hlen := r.length
  have noO : ∀ i a, ¬ OwAt (Mini.startE F ds) (L2.start N vs) i a := fun i a ⟨⟨d, h⟩, _⟩ => by
    rcases startE_get h with ⟨_, _, z⟩ | z <;> cases z
  have eA : OwA Av (Mini.startE F ds) (L2.start N vs) no = Av := by
    funext a
    apply propext
    rw [OwA_no]
    exact ⟨fun h => h.elim id fun ⟨i, z⟩ => absurd z (noO i a), .inl⟩
  refine ⟨by rw [eA]; exact sr, ?_, fun i d h => ?_, fun i d h => ?_, fun i a h => absurd h (noO i a), fun i j a h => absurd h (noO i a), fun a h => h.elim, Ext.refl, ⟨st, sr⟩, fun _ _ _ h => h.elim⟩
  · unfold Mini.startE L2.start
    simp only [List.length_append, List.length_map, List.length_replicate]
    omega
  · rw [eA]
    rcases startE_get h with ⟨d', h1, h2⟩ | z
    · cases h2
      obtain ⟨v, hv, rv⟩ := r.get h1
      refine ⟨v, ?_, rv⟩
      have hi : i < vs.length := (List.getElem?_eq_some_iff.mp hv).1
      unfold L2.start
      rw [List.getElem?_append_left (by rw [List.length_map]; exact hi), List.getElem?_map, hv]
      rfl
    · cases z
  · rcases startE_get h with ⟨_, _, z⟩ | z <;> cases z
/-- a def may be called, d calls deep -/
structure Cal (Pm : Program) (w : World) (K : PySem.W.Frag) (mg : Str → Option Value) (base : Heap) (fad : Nat → Addr) (P : Mini.Prog) (c : Mc) (d n : Nat) (fd : FuncData) (ps : List Str) : Prop where
  fn : FnG Pm w K mg base d (fad n) fd ps (spF K fad P d n)
  kp : PySem.W.keepIn K (.ref (fad n)) = true
  bind : ∀ (s : Shared) (us : List Value), us.length = ps.length → BindsTo s fd ⟨us, []⟩ (ps.zip us)
  kw : ∀ e ∈ c.kws, e.1 = n → KwB fd ps e.2.1 e.2.2.1 e.2.2.2
theorem callP_len {n d : Nat} {F : Mini.Fn} {ds : List D} {st : Mini.St} {r : D × Mini.St} (hF : P.fns[n]? = some F) (h : Mini.callP P (d + 1) n ds st = some r) : ds.length = F.np ∧ Mini.runFn P (Mini.callP P d) F ds st = some r := by
  unfold Mini.callP at h
  rw [hF] at h
  have h : Mini.runFn P (Mini.callP P d) F ds st = some r := h
  refine ⟨?_, h⟩
  unfold Mini.runFn at h
  split at h
  · assumption
  · cases h
theorem cal_all (G : GloR K fad P mg c) : ∀ (d n : Nat) (F : Mini.Fn), P.fns[n]? = some F → ∃ fd ps, Cal Pm w K mg base fad P c d n fd ps ∧ ps.length = F.np := by
  intro d
  induction d with
  | zero =>
    intro n F hF
    obtain ⟨x, qual, params, body, scope, fd, N, ps, fD, S, hm, hp, hN, hb, hk⟩ := (G.fns n F hF).ex
    refine ⟨fd, ps, ⟨⟨fun vs H Q h => ?_, fun A outer s H args us vs Q hg hr e0 hb r h => ?_⟩, fD.kp, hb, hk⟩, hp⟩
    · obtain ⟨Av, ρ, st, ds, r, st', _, _, e, _⟩ := h
      cases e
    · obtain ⟨Av, ρ, st, ds, r, st', _, _, e, _⟩ := h
      cases e
  | succ d ih =>
    intro n F hF
    obtain ⟨x, qual, params, body, scope, fd, N, ps, fD, S, hm, hp, hN, hb, hk⟩ := (G.fns n F hF).ex
    refine ⟨fd, ps, ⟨?_, fD.kp, hb, hk⟩, hp⟩
    obtain ⟨oc, od, dV, kV, doc, pm, an, cdv, ct, osl, rfl, lk, hcd, _, _⟩ := fD.ex
    refine fnG_of lk hcd S (fun vs H Q h => ?_) fun A outer s H vs Q hg hr h => ?_
    · obtain ⟨Av, ρ, st, ds, r, st', _, rl, e, _⟩ := h
      rw [← rl.length, (callP_len hF e).1, hp]
    · obtain ⟨Av, ρ, st, ds, r, st', sr, rl, e, q⟩ := h
      obtain ⟨hl, e⟩ := callP_len hF e
      have hnp : F.np ≤ F.ns := by
        have := congrArg List.length S.pre
        rw [List.length_take] at this
        omega
      have B : AtB (cxG Pm w K mg base N qual scope (fad n) cdv A outer s H) fad P d { c with N := N } scope :=
        ⟨⟨rfl, S.nd, rfl, rfl, hg, hr, fun m F' hF' => by
            obtain ⟨fd', ps', C, _⟩ := ih m F' hF'
            exact ⟨fd', ps', ⟨C.fn, C.kp, C.bind⟩, C.kw⟩, G.fnm, G.cst, G.bt⟩, S.kind, fun _ => rfl, PassesOwn.never⟩
      refine ⟨_, (gs_all F.body).gs B hm, ?_⟩
      unfold Mini.runFn at e
      rw [if_pos hl] at e
      obtain ⟨⟨fl, env', st2⟩, e1, e2⟩ := Option.bind_eq_some_iff.mp e
      refine ⟨Av, ρ, H, fun _ _ _ => False, ρ, Mini.startE F ds, st, fl, env', st2, sv_start (X := cxG Pm w K mg base N qual scope (fad n) cdv A outer s H) sr rl (by omega) hN, e1, ?_⟩
      have le : ∀ {env : Mini.Env} {σ : L2.St} (a : Addr), Av a → OwA Av env σ no a := fun a h => .inl h
      cases fl with
      | nx =>
        cases e2
        exact fun ρ' H' σ' v => q ρ' H' _ v.ext (SR.sub le v.sr) .non
      | rt d' =>
        cases e2
        exact fun ρ' H' v x r p => q ρ' H' v x r p
      | bk => cases e2
      | ct => cases e2
end
end Snd
end

section
set_option autoImplicit false
set_option Elab.async false
set_option linter.all false
set_option maxRecDepth 100000
set_option maxHeartbeats 1000000
/-! Snd44: from a law of the evaluator to the law of the program. -/
namespace Snd
open PySem PySem.Spec PyProof.Rows L2
open Mini (D Sl T)
section
variable {fad : Nat → Addr} {P : Mini.Prog} {Pm : Program} {w : World} {K : PySem.W.Frag} {mg mb : Str → Option Value} {c : Mc} {a : Addr} {vs : List Value} {ns : List Int} {s₁ : Shared}
/-- the law's list is all that is tracked -/
def oneH (a : Addr) (o : Obj) (l : List V) : Hp := fun b => if b = a then some (.frz o (.lst l)) else none
theorem oneH_at {o : Obj} {l : List V} : oneH a o l a = some (.frz o (.lst l)) := if_pos rfl
theorem oneH_some {o : Obj} {l : List V} {b : Addr} {u : HO} (h : oneH a o l b = some u) : b = a ∧ u = .frz o (.lst l) := by
  unfold oneH at h
  split at h
  · rename_i e
    exact ⟨e, (Option.some.inj h).symm⟩
  · cases h
theorem oneH_no {o : Obj} {l : List V} {b : Addr} (h : b ≠ a) : oneH a o l b = none := if_neg h
theorem int_rep {Bad : Addr → Prop} {ρ : List Addr} {H : Hp} : ∀ ns : List Int, RepL K fad H Bad ρ (ns.map D.int) (ns.map V.int)
  | [] => .nil
  | n :: r => .cons (.int n) (int_rep r)
/-- a def of one argument, called with the script -/
theorem run_law {n dd : Nat} {F : Mini.Fn} (G : GloR K fad P mg c) (hF : P.fns[n]? = some F) (hnp : F.np = 1) (plain : ∃ st, Mini.callP P dd n [.lst (ns.map .int)] [] = some (.bl true, st))
    (kin : K.In s₁.heap) (glob : s₁.heap.Ns mainGlobals mg) (blt : s₁.heap.Ns builtinsNs mb) (blt2 : ∀ x : Str, x ≠ "__name__" → mb x = bootBuiltins x) (lim : s₁.heap.NoLimit) (gens : s₁.gens = #[])
    (lst : s₁.heap.get? a = some { cls := .type "list", data := .seq vs.toArray }) (hint : IntsAre vs ns) (size : ns.length ≤ sizeLine) (room : Room dd callerA) (out : K.lookup a = none) :
    codeAny (model Pm w) callerA (.call (.ref (fad n)) ⟨[.ref a], []⟩) (fun r s' => r = .ok (.ret (.bool true)) ∧ OldK s₁.heap s'.heap ∧ s'.os = s₁.os ∧ AllBare s'.gens) s₁ := by
  obtain ⟨stE, hE⟩ := plain
  generalize eob : ({ cls := .type "list", data := .seq vs.toArray } : Obj) = ob at lst
  have vals := vals_ints hint
  have il := hint.length
  let H := oneH a ob (ns.map V.int)
  -- the rest of the heap stays hidden from nothing
  have keepB : ∀ {b : Addr} {o : Obj}, s₁.heap.get? b = some o → b ≠ a → (hidT s₁.heap H).get? b = some o := fun {b o} e hb => hidT_get e (oneH_no hb)
  have isD : ∀ {b : Addr} {m : Str → Option Value}, s₁.heap.Ns b m → (hidT s₁.heap H).Ns b m := fun {b m} h => by
    obtain ⟨o, es, ep, e1, e2, e3⟩ := h
    refine ⟨o, es, ep, keepB e1 fun z => ?_, e2, e3⟩
    rw [z, lst] at e1
    have e4 := Option.some.inj e1
    rw [← e4, ← eob] at e2
    cases e2
  have inK : K.In (hidT s₁.heap H) := fun b o e => keepB (kin b o e) fun z => by
    rw [z, out] at e
    cases e
  obtain ⟨mc, l1, l2⟩ := lim
  have md : Mod K mg (hidT s₁.heap H) := ⟨inK, isD glob, ⟨mb, isD blt, blt2⟩, ⟨mc, isD l1, l2⟩⟩
  have ok : HOk Pm w H s₁.heap := fun b u e => by
    obtain ⟨rfl, rfl⟩ := oneH_some e
    refine ⟨lst, ?_⟩
    rw [← eob] at lst
    exact ⟨by rw [List.length_map]; exact size, vs, _, vals, lst⟩
  have env0 : Env0 Pm w K mg (hidT s₁.heap H) callerA [] s₁ H := by
    refine ⟨rfl, md, fun b o e => of_hidT e, ?_, trivial, (fun b hb => nomatch (show b ∈ ([] : List Addr) from hb)), ok, .of_eq gens⟩
    rw [hidT_size]
    exact Nat.le_refl _
  obtain ⟨fd, ps, C, hp⟩ := cal_all (Pm := Pm) (w := w) (base := hidT s₁.heap H) G dd n F hF
  have hp1 : ps.length = 1 := hp.trans hnp
  have sr : SR K fad (fun _ => False) [] H [] := ⟨List.nodup_nil, rfl, fun _ _ _ h => (by simp at h), fun _ h => h.elim⟩
  have rl : RepL K fad H (Bd (fun _ => False) []) [] [D.lst (ns.map .int)] [V.ref a] :=
    .cons (.lst (fun z => z.elim id fun z => nomatch z) (.inr ⟨ob, oneH_at⟩) (int_rep ns)) .nil
  have hsp : spF K fad P dd n [V.ref a] H (fun v _ => v = .bl true) := ⟨_, [], [], _, _, stE, sr, rl, hE, fun ρ' H' v _ _ r => by cases r; rfl⟩
  refine codeAny_mono (C.fn.run callerA [] s₁ H ⟨[.ref a], []⟩ [.ref a] [.ref a] _ rfl room env0 (C.bind s₁ [.ref a] (by rw [hp1]; rfl)) (.cons rfl .nil) hsp) fun r s' h => ?_
  obtain ⟨u, rfl, v, H', os, bare, un, ok', rv, q⟩ := h
  have q : v = .bl true := q
  subst q
  have eu : u = .bool true := rv
  subst eu
  refine ⟨rfl, OldK.of_keep fun b o e => ?_, os, bare⟩
  by_cases hb : b = a
  · subst hb
    rw [lst] at e
    cases e
    exact (ok' b _ (un.frzs b ob _ oneH_at)).1
  · exact un.keep b o e (oneH_no hb) (fun z => nomatch (show b ∈ ([] : List Addr) from z)) fun z => nomatch z
/-- the walk of a law -/
theorem walk_mini {l : PySem.W.OpenLaw} {m n dd : Nat} {F : Mini.Fn} {q : Program} {loose : List Str} {XP : (Str → Option Value) → Heap → Prop} {YP : World → Heap → Prop} {d : DefRec}
    (hm : l.most = some m) (hz : m ≤ sizeLine) (hdf : d.params.defaults = []) (room : Room dd callerA) (hF : P.fns[n]? = some F) (hnp : F.np = 1)
    (plain : ∀ xs : List Int, xs.length ≤ m → ∃ st, Mini.callP P dd n [.lst (xs.map .int)] [] = some (.bl true, st))
    (hG : ∀ (w : World) (mg : Str → Option Value) (fa : Addr) (h : Heap), YP w h → h.Ns mainGlobals mg → mg d.name = some (.ref fa) →
      ∃ (K : PySem.W.Frag) (fad : Nat → Addr), K.In h ∧ GloR K fad P mg c ∧ fa = fad n ∧ ∀ a o, K.lookup a = some o → o.cls ≠ .type "list") :
    PySem.W.WalkO q loose XP YP l.row.toRowW d [] (fun f vs => PySem.call f vs) := by
  refine Att.attach_call hm hdf fun w s₀ s₁ mg mb fa o pm cd doc a vs ns G Y ho hd hcd hmg hobj hints hlen hg => ?_
  obtain ⟨K, fad, KX, GR, rfl, noL⟩ := hG w mg fa _ Y G.T.g hmg
  refine run_law GR hF hnp (plain ns hlen) KX G.T.g G.T.b G.T.builtins G.T.nolimit hg hobj hints (Nat.le_trans hlen hz) room ?_
  cases e : K.lookup a with
  | none => rfl
  | some ob =>
    have e2 := KX a ob e
    rw [hobj] at e2
    cases e2
    exact absurd rfl (noL a _ e)
end
/-! ### constants of the module's top -/
section
variable {K : PySem.W.Frag} {fad : Nat → Addr}
mutual
def wtB (K : PySem.W.Frag) : D → Value → Bool
  | .non, .none => true
  | .bl b, .bool e => b == e
  | .int i, .int j _ => decide (i = j)
  | .str s, .str x _ => decide (s = codes x)
  | .wt xs, .ref a => (match K.lookup a with
    | some ⟨.type t, _, .seq its _, _⟩ => decide (t = "tuple") && decide (its.size ≤ sizeLine) && wtBs K xs its.toList
    | _ => false)
  | _, _ => false
def wtBs (K : PySem.W.Frag) : List D → List Value → Bool
  | [], [] => true
  | x :: xs, u :: us => wtB K x u && wtBs K xs us
  | _, _ => false
end
mutual
theorem wtB_ok : ∀ (d : D) (u : Value), wtB K d u = true → ∃ v, RelV v u ∧ ∀ H Bad ρ, Rep K fad H Bad ρ d v
  | .non, u, h => by
    cases u <;> first | exact ⟨.non, rfl, fun _ _ _ => .non⟩ | (simp [wtB] at h)
  | .bl b, u, h => by
    cases u <;> simp only [wtB, Bool.false_eq_true] at h
    rename_i e
    have : b = e := by simpa using h
    subst this
    exact ⟨.bl b, rfl, fun _ _ _ => .bl b⟩
  | .int i, u, h => by
    cases u <;> simp only [wtB, Bool.false_eq_true, decide_eq_true_eq] at h
    rename_i j t
    subst h
    exact ⟨.int i, ⟨t, rfl⟩, fun _ _ _ => .int i⟩
  | .str s, u, h => by
    cases u <;> simp only [wtB, Bool.false_eq_true, decide_eq_true_eq] at h
    rename_i x t
    subst h
    exact ⟨.str x, ⟨t, rfl⟩, fun _ _ _ => .str x⟩
  | .wt xs, u, h => by
    cases u <;> simp only [wtB, Bool.false_eq_true] at h
    rename_i a
    cases q : K.lookup a with
    | none => rw [q] at h; cases h
    | some o =>
      obtain ⟨oc, od, dt, osl⟩ := o
      rw [q] at h
      cases oc <;> first | (cases h; done) | skip
      rename_i t
      cases dt <;> first | (cases h; done) | skip
      rename_i its k
      simp only [Bool.and_eq_true, decide_eq_true_eq] at h
      obtain ⟨⟨h1, h2⟩, h3⟩ := h
      obtain ⟨vs, r1, r2⟩ := wtBs_ok xs its.toList h3
      exact ⟨.ref a, rfl, fun H Bad ρ => .wt (.inr ⟨_, its, k, q, by rw [h1], rfl, h2, r1⟩) (r2 H Bad ρ)⟩
  | .tup _, u, h => by cases u <;> simp [wtB] at h
  | .lst _, u, h => by cases u <;> simp [wtB] at h
  | .dct _, u, h => by cases u <;> simp [wtB] at h
  | .set _, u, h => by cases u <;> simp [wtB] at h
  | .ref _, u, h => by cases u <;> simp [wtB] at h
  | .fn _, u, h => by cases u <;> simp [wtB] at h
theorem wtBs_ok : ∀ (ds : List D) (us : List Value), wtBs K ds us = true → ∃ vs, Vals vs us ∧ ∀ H Bad ρ, RepL K fad H Bad ρ ds vs
  | [], us, h => by
    cases us with
    | nil => exact ⟨[], .nil, fun _ _ _ => .nil⟩
    | cons u us => simp [wtBs] at h
  | d :: ds, us, h => by
    cases us with
    | nil => simp [wtBs] at h
    | cons u us =>
      simp only [wtBs, Bool.and_eq_true] at h
      obtain ⟨v, r1, r2⟩ := wtB_ok d u h.1
      obtain ⟨vs, r3, r4⟩ := wtBs_ok ds us h.2
      exact ⟨v :: vs, .cons r1 r3, fun H Bad ρ => .cons (r2 H Bad ρ) (r4 H Bad ρ)⟩
end
end
/-! ### the head's facts -/
/-- what is told of the names: constants, names that are free, defs that stand there; no list among the objects -/
def chkK (csts : List (Str × D)) (free fns : List Str) (K : PySem.W.Frag) : Bool :=
  (csts.all fun q => match PySem.W.nsIn K mainGlobals q.1 with
    | some (some u) => wtB K q.2 u
    | _ => false) && (free.all fun x => decide (PySem.W.nsIn K mainGlobals x = some none)) && (fns.all fun x => decide (PySem.W.nsIn K mainGlobals x = some (some (.ref (He.ga K x))))) &&
  K.all fun p => decide (p.2.cls ≠ .type "list")
structure Chk (csts : List (Str × D)) (free fns : List Str) (K : PySem.W.Frag) : Prop where
  cst : ∀ q ∈ csts, ∃ u, PySem.W.nsIn K mainGlobals q.1 = some (some u) ∧ wtB K q.2 u = true
  free : ∀ x ∈ free, PySem.W.nsIn K mainGlobals x = some none
  fns : ∀ x ∈ fns, PySem.W.nsIn K mainGlobals x = some (some (.ref (He.ga K x)))
  noL : ∀ a o, K.lookup a = some o → o.cls ≠ .type "list"
theorem lookup_mem {K : PySem.W.Frag} {a : Addr} {o : Obj} (h : K.lookup a = some o) : ∃ b, (b, o) ∈ K := by
  induction K with
  | nil => cases h
  | cons p K ih =>
    obtain ⟨b, ob⟩ := p
    rw [List.lookup_cons] at h
    split at h
    · cases h
      exact ⟨b, List.mem_cons_self ..⟩
    · obtain ⟨b', hb⟩ := ih h
      exact ⟨b', List.mem_cons_of_mem _ hb⟩
theorem chkK_ok {csts : List (Str × D)} {free fns : List Str} {K : PySem.W.Frag} (h : chkK csts free fns K = true) : Chk csts free fns K := by
  unfold chkK at h
  simp only [Bool.and_eq_true, List.all_eq_true, decide_eq_true_eq] at h
  obtain ⟨⟨⟨h1, h2⟩, h3⟩, h4⟩ := h
  refine ⟨fun q hq => ?_, h2, h3, fun a o e => ?_⟩
  · have := h1 q hq
    split at this
    · rename_i u e; exact ⟨u, e, this⟩
    · cases this
  · obtain ⟨b, hb⟩ := lookup_mem e
    exact h4 _ hb
abbrev AlM : Type := Bool × List He.FnW
def obsM (chk : PySem.W.Frag → Bool) (fn : List He.DefD) (K : PySem.W.Frag) : AlM := (chk K && fn.all (fun d => d.ok K), fn.map fun d => He.fnW K d.at_)
def valM (fn : List He.DefD) : AlM := (true, fn.map fun d => d.val)
def obsMG (n : Nat) (chk : PySem.W.Frag → Bool) (fn : List He.DefD) (g : Addr → Option Obj) : AlM := obsM chk fn (He.frG g (He.asD g n))
def hookM (n : Nat) (chk : PySem.W.Frag → Bool) (fn : List He.DefD) : PySem.W.Hook where
  α := AlM
  obs := fun s => obsMG n chk fn s.heap.get?
  val := fun _ => valM fn
  says := fun _ h => ∃ K : PySem.W.Frag, K.In h ∧ obsM chk fn K = valM fn
  of := fun _ _ e => ⟨_, He.frG_in, e⟩
  keeps := fun _ _ _ ⟨K, hK, e⟩ k => ⟨K, hK.keeps k, e⟩
theorem obsMG_eq {n : Nat} {chk : PySem.W.Frag → Bool} {fn : List He.DefD} {g : Addr → Option Obj} {s : Shared} (h : ∀ a, g a = s.heap.get? a) : obsMG n chk fn g = (hookM n chk fn).obs s := by
  have e : g = s.heap.get? := funext h
  subst e
  rfl
theorem says_chk {chk : PySem.W.Frag → Bool} {fn : List He.DefD} {K : PySem.W.Frag} (e : obsM chk fn K = valM fn) : chk K = true ∧ ∀ d ∈ fn, ∃ fd, FunD K d.name d.qual d.params d.body d.scope (d.dvs K) (d.kws K) (He.fAd K d.at_) fd := by
  have e1 : (chk K && fn.all (fun d => d.ok K)) = true := congrArg Prod.fst e
  rw [Bool.and_eq_true, List.all_eq_true] at e1
  have e2 : fn.map (fun d => He.fnW K d.at_) = fn.map fun d => d.val := congrArg Prod.snd e
  refine ⟨e1.1, fun d hd => He.DefD.funD ?_ (e1.2 d hd)⟩
  exact List.map_inj_left.mp e2 d hd
end Snd
end

section
set_option autoImplicit false
set_option Elab.async false
set_option linter.all false
set_option maxRecDepth 100000
set_option maxHeartbeats 1000000
/-! Snd45: the names of a module, from what the head tells. -/
namespace Snd
open PySem PySem.Spec PyProof.Rows L2
open Mini (D Sl T)
theorem glo_of {K : PySem.W.Frag} {P : Mini.Prog} {c : Mc} {nm : Nat → Str} {h : Heap} {mg : Str → Option Value} (X : K.In h) (G : h.Ns mainGlobals mg) (k : Chk (c.csts.map fun q => (q.1, (P.consts[q.2]?).getD .non)) c.bts (c.fns.map (·.1)) K)
    (hfn : ∀ q ∈ c.fns, nm q.2 = q.1 ∧ (P.fns[q.2]?).isSome = true) (hc : ∀ q ∈ c.csts, (P.consts[q.2]?).isSome = true ∧ Mini.ownable ((P.consts[q.2]?).getD .non) = false) (hd : ∀ n F, P.fns[n]? = some F → DefR K (fun n => He.ga K (nm n)) c n F) :
    GloR K (fun n => He.ga K (nm n)) P mg c := by
  refine ⟨hd, fun q hq => ?_, fun q hq => ?_, fun x hx => ?_⟩
  · obtain ⟨e1, e2⟩ := hfn q hq
    refine ⟨?_, Option.isSome_iff_exists.mp e2⟩
    have e := k.fns q.1 (List.mem_map_of_mem hq)
    rw [PySem.W.mg_of X G e, e1]
  · obtain ⟨e1, e2⟩ := hc q hq
    obtain ⟨d, ed⟩ := Option.isSome_iff_exists.mp e1
    obtain ⟨u, u1, u2⟩ := k.cst _ (List.mem_map_of_mem hq)
    rw [ed] at e2 u2
    obtain ⟨v, r1, r2⟩ := wtB_ok (fad := fun n => He.ga K (nm n)) d u u2
    exact ⟨v, u, d, ed, e2, PySem.W.mg_of X G u1, r1, r2⟩
  · exact PySem.W.mg_none_of X G (k.free x hx)
/-- calls with keywords alone or behind positional ones, by what the parameters get -/
theorem kwB_of {K : PySem.W.Frag} {x qual : Str} {params : Arguments} {body : List Stmt} {scope : Scope} {f : Addr} {fd : FuncData} (F : FunD K x qual params body scope [] [] f fd) {ps ks : List Str} {np : Nat} {perm : List Nat}
    (h : ∀ (kV doc pm : Value) (an : Option Addr) (cdv ct : Value) (us ws zs : List Value), us.length = np → ws.length = ks.length → permL (us ++ ws) perm = some zs → bindArgs (PySem.W.fnOf x qual params body scope .none kV doc pm an cdv ct) ⟨us, ks.zip ws⟩ = pure (ps.zip zs)) : KwB fd ps np ks perm := by
  obtain ⟨oc, od, dV, kV, doc, pm, an, cdv, ct, osl, rfl, lk, hcd, hD, hK⟩ := F.ex
  intro s us ws zs h1 h2 h3
  rcases hD with ⟨_, rfl⟩ | ⟨e, _⟩
  · exact .of_eq (h kV doc pm an cdv ct us ws zs h1 h2 h3)
  · exact absurd rfl e
end Snd
end

section
set_option autoImplicit false
set_option linter.all false
set_option maxRecDepth 100000
/-! printed by gen.py -/
namespace T08
open Mini
def consts : List D := [(.int 10), (.wt [(.int 1), (.wt [(.wt [(.int 0)])])])]
/-- is_integer(value): 0:value -/
def b0 : T := (.cons (.ret (.and (.bi .isInt (.cons (.var 0) .nil)) (.nt (.bi .isBool (.cons (.var 0) .nil))))) .nil)
def f0 : Fn := ⟨1, 1, b0⟩
def n0 : List String := ["value"]
/-- is_from(value, least, most): 0:value 1:least 2:most -/
def b1 : T := (.cons (.ret (.and (.call 0 (.cons (.var 0) .nil)) (.chn .le .le (.var 1) (.var 0) (.var 2)))) .nil)
def f1 : Fn := ⟨3, 3, b1⟩
def n1 : List String := ["value", "least", "most"]
/-- is_lot(many, value): 0:many 1:value 2:near 3:far 4:one -/
def b2 : T := (.cons (.ifs (.or (.nt (.bi .isTuple (.cons (.var 1) .nil))) (.nt (.bi .all (.cons (.lc [4] (.call 1 (.cons (.var 4) (.cons (.cst (.int 0)) (.cons (.bin .sub (.var 0) (.cst (.int 1))) .nil)))) (.var 4) (.var 1) .nil) .nil)))) (.cons (.ret (.cst (.bl false))) .nil) .nil) (.cons (.ret (.bi .all (.cons (.lc [2, 3] (.cmp .lt (.var 2) (.var 3)) (.tup (.cons (.var 2) (.cons (.var 3) .nil))) (.zip (.var 1) (.slc (.var 1) (.cst (.int 1)) (.cst .non))) .nil) .nil))) .nil))
def f2 : Fn := ⟨2, 5, b2⟩
def n2 : List String := ["many", "value", "near", "far", "one"]
/-- need_lot(many, lot): 0:many 1:lot -/
def b3 : T := (.cons (.ifs (.nt (.call 2 (.cons (.var 0) (.cons (.var 1) .nil)))) (.cons .nil .nil) .nil) (.cons (.ret (.var 1)) .nil))
def f3 : Fn := ⟨2, 2, b3⟩
def n3 : List String := ["many", "lot"]
/-- lies_in(near, far): 0:near 1:far 2:one -/
def b4 : T := (.cons (.ret (.bi .all (.cons (.lc [2] (.cmp .mem (.var 2) (.var 1)) (.var 2) (.var 0) .nil) .nil))) .nil)
def f4 : Fn := ⟨2, 3, b4⟩
def n4 : List String := ["near", "far", "one"]
/-- facets_fault(many, facets): 0:many 1:facets 2:number 3:facet 4:ahead 5:one -/
def b5 : T := (.cons (.for_ (.tup (.cons (.var 2) (.cons (.var 3) .nil))) (.enm (.var 1)) (.cons (.asg (.var 4) (.slc (.var 1) (.cst .non) (.var 2))) (.cons (.ifs (.or (.nt (.call 2 (.cons (.var 0) (.cons (.var 3) .nil)))) (.and (.cmp .ne (.var 4) (.tup .nil)) (.cmp .le (.var 3) (.ix (.var 4) (.neg (.cst (.int 1))))))) (.cons (.ret (.var 2)) .nil) .nil) (.cons (.ifs (.bi .any (.cons (.lc [5] (.or (.call 4 (.cons (.var 5) (.cons (.var 3) .nil))) (.call 4 (.cons (.var 3) (.cons (.var 5) .nil)))) (.var 5) (.var 4) .nil) .nil)) (.cons (.ret (.var 2)) .nil) .nil) .nil)))) (.cons (.ret (.cst .non)) .nil))
def f5 : Fn := ⟨2, 6, b5⟩
def n5 : List String := ["many", "facets", "number", "facet", "ahead", "one"]
/-- complex_fault(value): 0:value 1:found -/
def b6 : T := (.cons (.ifs (.or (.nt (.bi .isTuple (.cons (.var 0) .nil))) (.cmp .ne (.bi .len (.cons (.var 0) .nil)) (.cst (.int 2)))) (.cons (.ret (.tup .nil)) .nil) .nil) (.cons (.ifs (.nt (.call 1 (.cons (.ix (.var 0) (.cst (.int 0))) (.cons (.cst (.int 1)) (.cons (.glo 0) .nil))))) (.cons (.ret (.tup (.cons (.cst (.int 0)) .nil))) .nil) .nil) (.cons (.ifs (.nt (.bi .isTuple (.cons (.ix (.var 0) (.cst (.int 1))) .nil))) (.cons (.ret (.tup (.cons (.cst (.int 1)) .nil))) .nil) .nil) (.cons (.asg (.var 1) (.call 5 (.cons (.ix (.var 0) (.cst (.int 0))) (.cons (.ix (.var 0) (.cst (.int 1))) .nil)))) (.cons (.ret (.ife (.cmp .isn (.var 1) (.cst .non)) (.tup (.cons (.cst (.int 1)) (.cons (.var 1) .nil))) (.cst .non))) .nil)))))
def f6 : Fn := ⟨1, 2, b6⟩
def n6 : List String := ["value", "found"]
/-- need_complex(body): 0:body 1:found -/
def b7 : T := (.cons (.asg (.var 1) (.call 6 (.cons (.var 0) .nil))) (.cons (.ifs (.cmp .isn (.var 1) (.cst .non)) (.cons .nil .nil) .nil) (.cons (.ret (.var 0)) .nil)))
def f7 : Fn := ⟨1, 2, b7⟩
def n7 : List String := ["body", "found"]
/-- need_complexes(body, other): 0:body 1:other -/
def b8 : T := (.cons (.exp (.call 7 (.cons (.var 0) .nil))) (.cons (.exp (.call 7 (.cons (.var 1) .nil))) .nil))
def f8 : Fn := ⟨2, 2, b8⟩
def n8 : List String := ["body", "other"]
/-- greatest_in(lots): 0:lots 1:found! 2:lot 3:one -/
def b9 : T := (.cons (.asgO 1 (.lst .nil)) (.cons (.for_ (.var 2) (.srtL (.dc [2] (.var 2) (.cst (.bl true)) (.var 2) (.var 0) .nil)) (.cons (.ifs (.nt (.bi .any (.cons (.lc [3] (.call 4 (.cons (.var 2) (.cons (.var 3) .nil))) (.var 3) (.var 1) .nil) .nil))) (.cons (.app 1 (.var 2)) .nil) .nil) .nil)) (.cons (.ret (.bi .tuple (.cons (.bi .sorted (.cons (.var 1) .nil)) .nil))) .nil)))
def f9 : Fn := ⟨1, 4, b9⟩
def n9 : List String := ["lots", "found", "lot", "one"]
/-- complex_in(many, lots): 0:many 1:lots -/
def b10 : T := (.cons (.ret (.tup (.cons (.var 0) (.cons (.call 9 (.cons (.var 1) .nil)) .nil)))) .nil)
def f10 : Fn := ⟨2, 2, b10⟩
def n10 : List String := ["many", "lots"]
/-- lots_within(lot): 0:lot 1:found 2:place 3:one -/
def b11 : T := (.cons (.asg (.var 1) (.lst (.cons (.tup .nil) .nil))) (.cons (.for_ (.var 2) (.var 0) (.cons (.asg (.var 1) (.bin .add (.var 1) (.lc [3] (.bin .add (.var 3) (.tup (.cons (.var 2) .nil))) (.var 3) (.var 1) .nil))) .nil)) (.cons (.ret (.var 1)) .nil)))
def f11 : Fn := ⟨1, 4, b11⟩
def n11 : List String := ["lot", "found", "place", "one"]
/-- faces_in(body): 0:body 1:found! 2:facet 3:lot -/
def b12 : T := (.cons (.asgO 1 (.dsp .nil)) (.cons (.for_ (.var 2) (.ix (.var 0) (.cst (.int 1))) (.cons (.for_ (.var 3) (.call 11 (.cons (.var 2) .nil)) (.cons (.setI 1 (.var 3) (.cst (.bl true))) .nil)) .nil)) (.cons (.ret (.bi .sorted (.cons (.var 1) .nil))) .nil)))
def f12 : Fn := ⟨1, 4, b12⟩
def n12 : List String := ["body", "found", "facet", "lot"]
/-- is_face_in(body, lot): 0:body 1:lot 2:facet -/
def b13 : T := (.cons (.ret (.bi .any (.cons (.lc [2] (.call 4 (.cons (.var 1) (.cons (.var 2) .nil))) (.var 2) (.ix (.var 0) (.cst (.int 1))) .nil) .nil))) .nil)
def f13 : Fn := ⟨2, 3, b13⟩
def n13 : List String := ["body", "lot", "facet"]
/-- places_in(body): 0:body 1:place -/
def b14 : T := (.cons (.ret (.lc [1] (.var 1) (.var 1) (.rng1 (.ix (.var 0) (.cst (.int 0)))) (.cons (.call 13 (.cons (.var 0) (.cons (.tup (.cons (.var 1) .nil)) .nil))) .nil))) .nil)
def f14 : Fn := ⟨1, 2, b14⟩
def n14 : List String := ["body", "place"]
/-- less_lot(lot, other): 0:lot 1:other 2:place -/
def b15 : T := (.cons (.ret (.bi .tuple (.cons (.lc [2] (.var 2) (.var 2) (.var 0) (.cons (.cmp .nmem (.var 2) (.var 1)) .nil)) .nil))) .nil)
def f15 : Fn := ⟨2, 3, b15⟩
def n15 : List String := ["lot", "other", "place"]
/-- without_in(body, lot): 0:body 1:lot 2:found! 3:facet 4:place -/
def b16 : T := (.cons (.asgO 2 (.lst .nil)) (.cons (.for_ (.var 3) (.ix (.var 0) (.cst (.int 1))) (.cons (.ifs (.call 4 (.cons (.var 1) (.cons (.var 3) .nil))) (.cons (.asgO 2 (.bin .add (.var 2) (.lc [4] (.call 15 (.cons (.var 3) (.cons (.tup (.cons (.var 4) .nil)) .nil))) (.var 4) (.var 1) .nil))) .nil) (.cons (.app 2 (.var 3)) .nil)) .nil)) (.cons (.fz 2) (.cons (.ret (.call 10 (.cons (.ix (.var 0) (.cst (.int 0))) (.cons (.var 2) .nil)))) .nil))))
def f16 : Fn := ⟨2, 5, b16⟩
def n16 : List String := ["body", "lot", "found", "facet", "place"]
/-- without(body, lot): 0:body 1:lot -/
def b17 : T := (.cons (.exp (.call 7 (.cons (.var 0) .nil))) (.cons (.ret (.call 16 (.cons (.var 0) (.cons (.call 3 (.cons (.ix (.var 0) (.cst (.int 0))) (.cons (.var 1) .nil))) .nil)))) .nil))
def f17 : Fn := ⟨2, 2, b17⟩
def n17 : List String := ["body", "lot"]
/-- walls_of(body): 0:body 1:found! 2:facet 3:place 4:wall -/
def b18 : T := (.cons (.asgO 1 (.dsp .nil)) (.cons (.for_ (.var 2) (.ix (.call 7 (.cons (.var 0) .nil)) (.cst (.int 1))) (.cons (.for_ (.var 3) (.var 2) (.cons (.asg (.var 4) (.call 15 (.cons (.var 2) (.cons (.tup (.cons (.var 3) .nil)) .nil)))) (.cons (.setI 1 (.var 4) (.bin .add (.get2 (.var 1) (.var 4) (.cst (.int 0))) (.cst (.int 1)))) .nil))) .nil)) (.cons (.ret (.bi .tuple (.cons (.lc [4] (.tup (.cons (.var 4) (.cons (.ix (.var 1) (.var 4)) .nil))) (.var 4) (.bi .sorted (.cons (.var 1) .nil)) .nil) .nil))) .nil)))
def f18 : Fn := ⟨1, 5, b18⟩
def n18 : List String := ["body", "found", "facet", "place", "wall"]
/-- spread_in(body, place): 0:body 1:place 2:found 3:number 4:facet 5:one -/
def b19 : T := (.cons (.par (.cons (.var 2) (.cons (.var 3) .nil)) (.cons (.lst (.cons (.var 1) .nil)) (.cons (.cst (.int 0)) .nil))) (.cons (.whl (.cmp .lt (.var 3) (.bi .len (.cons (.var 2) .nil))) (.cons (.for_ (.var 4) (.ix (.var 0) (.cst (.int 1))) (.cons (.ifs (.cmp .mem (.ix (.var 2) (.var 3)) (.var 4)) (.cons (.asg (.var 2) (.bin .add (.var 2) (.lc [5] (.var 5) (.var 5) (.var 4) (.cons (.cmp .nmem (.var 5) (.var 2)) .nil)))) .nil) .nil) .nil)) (.cons (.aug 3 .add (.cst (.int 1))) .nil))) (.cons (.ret (.bi .tuple (.cons (.bi .sorted (.cons (.var 2) .nil)) .nil))) .nil)))
def f19 : Fn := ⟨2, 6, b19⟩
def n19 : List String := ["body", "place", "found", "number", "facet", "one"]
/-- parts_of(body): 0:body 1:place -/
def b20 : T := (.cons (.exp (.call 7 (.cons (.var 0) .nil))) (.cons (.ret (.bi .tuple (.cons (.bi .sorted (.cons (.dc [1] (.call 19 (.cons (.var 0) (.cons (.var 1) .nil))) (.cst (.bl true)) (.var 1) (.call 14 (.cons (.var 0) .nil)) .nil) .nil)) .nil))) .nil))
def f20 : Fn := ⟨1, 2, b20⟩
def n20 : List String := ["body", "place"]
/-- tips_of(body): 0:body 1:facets 2:place 3:facet -/
def b21 : T := (.cons (.asg (.var 1) (.ix (.call 7 (.cons (.var 0) .nil)) (.cst (.int 1)))) (.cons (.ifs (.cmp .eq (.var 1) (.tup .nil)) (.cons (.ret (.tup .nil)) .nil) .nil) (.cons (.ret (.bi .tuple (.cons (.lc [2] (.var 2) (.var 2) (.ix (.var 1) (.cst (.int 0))) (.cons (.bi .all (.cons (.lc [3] (.cmp .mem (.var 2) (.var 3)) (.var 3) (.var 1) .nil) .nil)) .nil)) .nil))) .nil)))
def f21 : Fn := ⟨1, 4, b21⟩
def n21 : List String := ["body", "facets", "place", "facet"]
/-- misses_in(body): 0:body 1:faces 2:found! 3:lot 4:face 5:place -/
def b22 : T := (.cons (.asg (.var 1) (.dc [4] (.var 4) (.cst (.bl true)) (.var 4) (.call 12 (.cons (.var 0) .nil)) .nil)) (.cons (.asgO 2 (.lst .nil)) (.cons (.for_ (.var 3) (.call 11 (.cons (.bi .tuple (.cons (.rng1 (.ix (.var 0) (.cst (.int 0)))) .nil)) .nil)) (.cons (.ifs (.and (.cmp .nmem (.var 3) (.var 1)) (.bi .all (.cons (.lc [5] (.cmp .mem (.call 15 (.cons (.var 3) (.cons (.tup (.cons (.var 5) .nil)) .nil))) (.var 1)) (.var 5) (.var 3) .nil) .nil))) (.cons (.app 2 (.var 3)) .nil) .nil) .nil)) (.cons (.ret (.bi .sorted (.cons (.var 2) .nil))) .nil))))
def f22 : Fn := ⟨1, 6, b22⟩
def n22 : List String := ["body", "faces", "found", "lot", "face", "place"]
/-- misses_of(body): 0:body -/
def b23 : T := (.cons (.ret (.bi .tuple (.cons (.call 22 (.cons (.call 7 (.cons (.var 0) .nil)) .nil)) .nil))) .nil)
def f23 : Fn := ⟨1, 1, b23⟩
def n23 : List String := ["body"]
/-- behind_in(body, many): 0:body 1:many 2:facet 3:place -/
def b24 : T := (.cons (.ret (.lc [2] (.bi .tuple (.cons (.lc [3] (.bin .add (.var 3) (.var 1)) (.var 3) (.var 2) .nil) .nil)) (.var 2) (.ix (.var 0) (.cst (.int 1))) .nil)) .nil)
def f24 : Fn := ⟨2, 4, b24⟩
def n24 : List String := ["body", "many", "facet", "place"]
/-- let_many(many): 0:many -/
def b25 : T := (.cons (.ifs (.cmp .gt (.var 0) (.glo 0)) (.cons .nil .nil) .nil) (.cons (.ret (.var 0)) .nil))
def f25 : Fn := ⟨1, 1, b25⟩
def n25 : List String := ["many"]
/-- joined_in(body, other): 0:body 1:other 2:many 3:found 4:facet 5:far -/
def b26 : T := (.cons (.asg (.var 2) (.call 25 (.cons (.bin .add (.ix (.var 0) (.cst (.int 0))) (.ix (.var 1) (.cst (.int 0)))) .nil))) (.cons (.asg (.var 3) (.lc2 [4, 5] [5] (.bin .add (.var 4) (.var 5)) (.var 4) (.ix (.var 0) (.cst (.int 1))) .nil (.var 5) (.call 24 (.cons (.var 1) (.cons (.ix (.var 0) (.cst (.int 0))) .nil))) .nil)) (.cons (.ret (.tup (.cons (.var 2) (.cons (.bi .tuple (.cons (.bi .sorted (.cons (.var 3) .nil)) .nil)) .nil)))) .nil)))
def f26 : Fn := ⟨2, 6, b26⟩
def n26 : List String := ["body", "other", "many", "found", "facet", "far"]
/-- beside_in(body, other): 0:body 1:other 2:many -/
def b27 : T := (.cons (.asg (.var 2) (.call 25 (.cons (.bin .add (.ix (.var 0) (.cst (.int 0))) (.ix (.var 1) (.cst (.int 0)))) .nil))) (.cons (.ret (.call 10 (.cons (.var 2) (.cons (.bin .add (.bi .list (.cons (.ix (.var 0) (.cst (.int 1))) .nil)) (.call 24 (.cons (.var 1) (.cons (.ix (.var 0) (.cst (.int 0))) .nil)))) .nil)))) .nil))
def f27 : Fn := ⟨2, 3, b27⟩
def n27 : List String := ["body", "other", "many"]
/-- beside(body, other): 0:body 1:other -/
def b28 : T := (.cons (.exp (.call 8 (.cons (.var 0) (.cons (.var 1) .nil)))) (.cons (.ret (.call 27 (.cons (.var 0) (.cons (.var 1) .nil)))) .nil))
def f28 : Fn := ⟨2, 2, b28⟩
def n28 : List String := ["body", "other"]
/-- coned(body): 0:body -/
def b29 : T := (.cons (.ret (.call 26 (.cons (.call 7 (.cons (.var 0) .nil)) (.cons (.glo 1) .nil)))) .nil)
def f29 : Fn := ⟨1, 1, b29⟩
def n29 : List String := ["body"]
/-- _law_begun(script, turn): 0:script 1:turn 2:cells 3:great 4:seed 5:cell -/
def b30 : T := (.cons (.asg (.var 2) (.bin .add (.slc (.var 0) (.var 1) (.cst .non)) (.slc (.var 0) (.cst .non) (.var 1)))) (.cons (.asg (.var 3) (.lc [5] (.var 5) (.var 5) (.var 0) (.cons (.cmp .ge (.var 5) (.bin .pow (.cst (.int 10)) (.cst (.int 18)))) .nil))) (.cons (.asg (.var 4) (.bin .add (.cst (.int 91)) (.var 1))) (.cons (.for_ (.var 5) (.var 2) (.cons (.asg (.var 4) (.bin .mod (.bi .int (.cons (.bin .add (.bin .mul (.var 4) (.cst (.int 48271))) (.var 5)) .nil)) (.cst (.int 2147483647)))) .nil)) (.cons (.ret (.dsp (.cons (.pair (.cst (.str [108, 101, 102, 116])) (.ife (.cmp .lt (.var 1) (.bi .len (.cons (.var 3) .nil))) (.ix (.var 3) (.var 1)) (.cst (.int 0)))) (.cons (.pair (.cst (.str [115, 101, 101, 100])) (.var 4)) (.cons (.pair (.cst (.str [99, 101, 108, 108, 115])) (.bin .add (.var 2) (.lst (.cons (.bin .add (.bin .mul (.cst (.int 61)) (.var 1)) (.cst (.int 17))) .nil)))) (.cons (.pair (.cst (.str [115, 112, 111, 116])) (.cst (.int 0))) .nil)))))) .nil)))))
def f30 : Fn := ⟨2, 6, b30⟩
def n30 : List String := ["script", "turn", "cells", "great", "seed", "cell"]
/-- _law_draw(m, span): 0:m 1:span 2:spot 3:cell 4:blend 5:found 6:cells 7:extra -/
def b31 : T := (.cons (.ifs (.cmp .gt (.ix (.var 0) (.cst (.str [108, 101, 102, 116]))) (.cst (.int 0))) (.cons (.asg (.var 5) (.bin .mod (.bi .int (.cons (.ix (.var 0) (.cst (.str [108, 101, 102, 116]))) .nil)) (.var 1))) (.cons (.asgM (.var 0) (.cst (.str [108, 101, 102, 116])) (.bin .fdiv (.ix (.var 0) (.cst (.str [108, 101, 102, 116]))) (.var 1))) (.cons (.ret (.var 5)) .nil))) .nil) (.cons (.asg (.var 2) (.ix (.var 0) (.cst (.str [115, 112, 111, 116])))) (.cons (.asgM (.var 0) (.cst (.str [115, 112, 111, 116])) (.bin .add (.var 2) (.cst (.int 1)))) (.cons (.par (.cons (.var 6) (.cons (.var 7) .nil)) (.cons (.ix (.var 0) (.cst (.str [99, 101, 108, 108, 115]))) (.cons (.bin .add (.ix (.var 0) (.cst (.str [115, 101, 101, 100]))) (.bin .mul (.bin .mul (.cst (.int 40503)) (.var 2)) (.var 2))) .nil))) (.cons (.asg (.var 3) (.ix (.var 6) (.bin .mod (.bi .int (.cons (.var 2) .nil)) (.bi .len (.cons (.var 6) .nil))))) (.cons (.asg (.var 4) (.bin .mod (.bi .int (.cons (.bin .add (.bin .mul (.var 3) (.bin .add (.bin .mul (.cst (.int 2)) (.var 2)) (.cst (.int 3)))) (.var 7)) .nil)) (.cst (.int 2147483647)))) (.cons (.asg (.var 4) (.bin .mod (.bi .int (.cons (.bin .add (.bin .add (.bin .mul (.var 4) (.var 4)) (.bin .mul (.cst (.int 69621)) (.var 2))) (.ix (.var 0) (.cst (.str [115, 101, 101, 100])))) .nil)) (.cst (.int 2147483629)))) (.cons (.ret (.bin .mod (.bin .fdiv (.bin .mod (.bi .int (.cons (.bin .add (.bin .mul (.var 4) (.cst (.int 48271))) (.var 2)) .nil)) (.cst (.int 2147483647))) (.cst (.int 11))) (.var 1))) .nil))))))))
def f31 : Fn := ⟨2, 8, b31⟩
def n31 : List String := ["m", "span", "spot", "cell", "blend", "found", "cells", "extra"]
/-- _law_of(m, some): 0:m 1:some -/
def b32 : T := (.cons (.ret (.ix (.var 1) (.call 31 (.cons (.var 0) (.cons (.bi .len (.cons (.var 1) .nil)) .nil))))) .nil)
def f32 : Fn := ⟨2, 2, b32⟩
def n32 : List String := ["m", "some"]
/-- _law_like(told, due): 0:told 1:due -/
def b33 : T := (.cons (.ret (.and (.cmp .eq (.var 0) (.var 1)) (.cmp .eq (.bi .repr (.cons (.var 0) .nil)) (.bi .repr (.cons (.var 1) .nil))))) .nil)
def f33 : Fn := ⟨2, 2, b33⟩
def n33 : List String := ["told", "due"]
/-- _law_subsets(places_so): 0:places_so 1:found 2:place_so 3:one -/
def b34 : T := (.cons (.asg (.var 1) (.lst (.cons (.tup .nil) .nil))) (.cons (.for_ (.var 2) (.var 0) (.cons (.asg (.var 1) (.bin .add (.var 1) (.lc [3] (.bin .add (.var 3) (.tup (.cons (.var 2) .nil))) (.var 3) (.var 1) .nil))) .nil)) (.cons (.ret (.var 1)) .nil)))
def f34 : Fn := ⟨1, 4, b34⟩
def n34 : List String := ["places_so", "found", "place_so", "one"]
/-- _law_lies(near_so, far_so): 0:near_so 1:far_so 2:one -/
def b35 : T := (.cons (.ret (.cmp .eq (.lc [2] (.cst (.int 1)) (.var 2) (.var 0) (.cons (.cmp .nmem (.var 2) (.var 1)) .nil)) (.lst .nil))) .nil)
def f35 : Fn := ⟨2, 3, b35⟩
def n35 : List String := ["near_so", "far_so", "one"]
/-- _law_greatest(lots_so): 0:lots_so 1:found! 2:one 3:two -/
def b36 : T := (.cons (.asgO 1 (.lst .nil)) (.cons (.for_ (.var 2) (.srtS (.var 0)) (.cons (.ifs (.cmp .eq (.lc [3] (.cst (.int 1)) (.var 3) (.var 0) (.cons (.and (.cmp .ne (.var 2) (.var 3)) (.call 35 (.cons (.var 2) (.cons (.var 3) .nil)))) .nil)) (.lst .nil)) (.cons (.app 1 (.var 2)) .nil) .nil) .nil)) (.cons (.ret (.bi .tuple (.cons (.var 1) .nil))) .nil)))
def f36 : Fn := ⟨1, 4, b36⟩
def n36 : List String := ["lots_so", "found", "one", "two"]
/-- _law_faces(complex_so): 0:complex_so 1:found! 2:facet_so 3:one -/
def b37 : T := (.cons (.asgO 1 (.dsp .nil)) (.cons (.for_ (.var 2) (.ix (.var 0) (.cst (.int 1))) (.cons (.for_ (.var 3) (.call 34 (.cons (.var 2) .nil)) (.cons (.setI 1 (.var 3) (.cst (.bl true))) .nil)) .nil)) (.cons (.ret (.bi .sorted (.cons (.var 1) .nil))) .nil)))
def f37 : Fn := ⟨1, 4, b37⟩
def n37 : List String := ["complex_so", "found", "facet_so", "one"]
/-- _law_some_complex(m, most_so): 0:m 1:most_so 2:width 3:lots_so! 4:again 5:k -/
def b38 : T := (.cons (.asg (.var 2) (.bin .add (.cst (.int 1)) (.call 31 (.cons (.var 0) (.cons (.var 1) .nil))))) (.cons (.ifs (.cmp .eq (.call 31 (.cons (.var 0) (.cons (.cst (.int 16)) .nil))) (.cst (.int 0))) (.cons (.ret (.tup (.cons (.var 2) (.cons (.call 32 (.cons (.var 0) (.cons (.lst (.cons (.tup .nil) (.cons (.tup (.cons (.tup .nil) .nil)) .nil))) .nil))) .nil)))) .nil) .nil) (.cons (.asgO 3 (.lst .nil)) (.cons (.for_ (.var 4) (.rng1 (.bin .add (.cst (.int 1)) (.call 31 (.cons (.var 0) (.cons (.cst (.int 6)) .nil))))) (.cons (.app 3 (.bi .tuple (.cons (.lc [5] (.var 5) (.var 5) (.rng1 (.var 2)) (.cons (.cmp .lt (.call 31 (.cons (.var 0) (.cons (.cst (.int 5)) .nil))) (.bin .add (.cst (.int 2)) (.call 31 (.cons (.var 0) (.cons (.cst (.int 2)) .nil))))) .nil)) .nil))) .nil)) (.cons (.fz 3) (.cons (.ret (.tup (.cons (.var 2) (.cons (.call 36 (.cons (.var 3) .nil)) .nil)))) .nil))))))
def f38 : Fn := ⟨2, 6, b38⟩
def n38 : List String := ["m", "most_so", "width", "lots_so", "again", "k"]
/-- _law_one_less(complex_so): 0:complex_so 1:found! 2:one 3:often 4:two -/
def b39 : T := (.cons (.asgO 1 (.lst .nil)) (.cons (.for_ (.var 2) (.call 37 (.cons (.var 0) .nil)) (.cons (.asg (.var 3) (.bi .len (.cons (.lc [4] (.cst (.int 1)) (.var 4) (.ix (.var 0) (.cst (.int 1))) (.cons (.and (.cmp .eq (.bi .len (.cons (.var 4) .nil)) (.bin .add (.bi .len (.cons (.var 2) .nil)) (.cst (.int 1)))) (.call 35 (.cons (.var 2) (.cons (.var 4) .nil)))) .nil)) .nil))) (.cons (.ifs (.cmp .gt (.var 3) (.cst (.int 0))) (.cons (.app 1 (.tup (.cons (.var 2) (.cons (.var 3) .nil)))) .nil) .nil) .nil))) (.cons (.ret (.bi .tuple (.cons (.var 1) .nil))) .nil)))
def f39 : Fn := ⟨1, 5, b39⟩
def n39 : List String := ["complex_so", "found", "one", "often", "two"]
/-- _law_parts(complex_so): 0:complex_so 1:faces_so 2:left_so 3:found! 4:here 5:again 6:k 7:j -/
def b40 : T := (.cons (.asg (.var 1) (.call 37 (.cons (.var 0) .nil))) (.cons (.par (.cons (.var 2) (.cons (.var 3) .nil)) (.cons (.lc [6] (.var 6) (.var 6) (.rng1 (.ix (.var 0) (.cst (.int 0)))) (.cons (.cmp .mem (.tup (.cons (.var 6) .nil)) (.var 1)) .nil)) (.cons (.frs (.lst .nil)) .nil))) (.cons (.whl (.cmp .ne (.var 2) (.lst .nil)) (.cons (.asg (.var 4) (.lst (.cons (.ix (.var 2) (.cst (.int 0))) .nil))) (.cons (.for_ (.var 5) (.var 2) (.cons (.asg (.var 4) (.bin .add (.var 4) (.lc [6] (.var 6) (.var 6) (.var 2) (.cons (.and (.cmp .nmem (.var 6) (.var 4)) (.cmp .ne (.lc [7] (.cst (.int 1)) (.var 7) (.var 4) (.cons (.cmp .mem (.bi .tuple (.cons (.bi .sorted (.cons (.tup (.cons (.var 7) (.cons (.var 6) .nil))) .nil)) .nil)) (.var 1)) .nil)) (.lst .nil))) .nil)))) .nil)) (.cons (.app 3 (.bi .tuple (.cons (.bi .sorted (.cons (.var 4) .nil)) .nil))) (.cons (.asg (.var 2) (.lc [6] (.var 6) (.var 6) (.var 2) (.cons (.cmp .nmem (.var 6) (.var 4)) .nil))) .nil))))) (.cons (.ret (.bi .tuple (.cons (.bi .sorted (.cons (.var 3) .nil)) .nil))) .nil))))
def f40 : Fn := ⟨1, 8, b40⟩
def n40 : List String := ["complex_so", "faces_so", "left_so", "found", "here", "again", "k", "j"]
/-- _law_misses(complex_so): 0:complex_so 1:faces_so 2:found 3:one 4:two -/
def b41 : T := (.cons (.asg (.var 1) (.call 37 (.cons (.var 0) .nil))) (.cons (.asg (.var 2) (.lc [3] (.var 3) (.var 3) (.call 34 (.cons (.bi .tuple (.cons (.rng1 (.ix (.var 0) (.cst (.int 0)))) .nil)) .nil)) (.cons (.cmp .nmem (.var 3) (.var 1)) .nil))) (.cons (.ret (.bi .tuple (.cons (.bi .sorted (.cons (.lc [3] (.var 3) (.var 3) (.var 2) (.cons (.cmp .eq (.lc [4] (.cst (.int 1)) (.var 4) (.var 2) (.cons (.and (.cmp .ne (.var 4) (.var 3)) (.call 35 (.cons (.var 4) (.cons (.var 3) .nil)))) .nil)) (.lst .nil)) .nil)) .nil)) .nil))) .nil)))
def f41 : Fn := ⟨1, 5, b41⟩
def n41 : List String := ["complex_so", "faces_so", "found", "one", "two"]
/-- _law_right(complex_so): 0:complex_so 1:width 2:tips_so 3:misses_so 4:told 5:faces_so 6:one 7:k 8:rest 9:two -/
def b42 : T := (.cons (.asg (.var 1) (.ix (.var 0) (.cst (.int 0)))) (.cons (.asg (.var 2) (.lc [7] (.var 7) (.var 7) (.rng1 (.var 1)) (.cons (.and (.cmp .ne (.ix (.var 0) (.cst (.int 1))) (.tup .nil)) (.cmp .eq (.lc [6] (.cst (.int 1)) (.var 6) (.ix (.var 0) (.cst (.int 1))) (.cons (.cmp .nmem (.var 7) (.var 6)) .nil)) (.lst .nil))) .nil))) (.cons (.asg (.var 3) (.call 41 (.cons (.var 0) .nil))) (.cons (.asg (.var 4) (.lst (.cons (.callK 18 .nil (.cons (.var 0) .nil) [[98, 111, 100, 121]] [0]) (.cons (.callK 20 .nil (.cons (.var 0) .nil) [[98, 111, 100, 121]] [0]) (.cons (.callK 21 .nil (.cons (.var 0) .nil) [[98, 111, 100, 121]] [0]) (.cons (.callK 23 .nil (.cons (.var 0) .nil) [[98, 111, 100, 121]] [0]) .nil)))))) (.cons (.ifs (.nt (.call 33 (.cons (.var 4) (.cons (.lst (.cons (.call 39 (.cons (.var 0) .nil)) (.cons (.call 40 (.cons (.var 0) .nil)) (.cons (.bi .tuple (.cons (.var 2) .nil)) (.cons (.var 3) .nil))))) .nil)))) (.cons (.ret (.cst (.bl false))) .nil) .nil) (.cons (.asg (.var 5) (.call 37 (.cons (.var 0) .nil))) (.cons (.for_ (.var 6) (.call 34 (.cons (.bi .tuple (.cons (.rng1 (.var 1)) .nil)) .nil)) (.cons (.ifs (.cmp .ne (.cmp .mem (.var 6) (.var 5)) (.cmp .eq (.lc [9] (.cst (.int 1)) (.var 9) (.var 3) (.cons (.call 35 (.cons (.var 9) (.cons (.var 6) .nil))) .nil)) (.lst .nil))) (.cons (.ret (.cst (.bl false))) .nil) .nil) .nil)) (.cons (.for_ (.var 7) (.var 2) (.cons (.asg (.var 8) (.call 17 (.cons (.var 0) (.cons (.tup (.cons (.var 7) .nil)) .nil)))) (.cons (.ifs (.nt (.call 33 (.cons (.tup (.cons (.var 1) (.cons (.bi .tuple (.cons (.bi .sorted (.cons (.lc [6] (.bi .tuple (.cons (.bi .sorted (.cons (.bin .add (.var 6) (.tup (.cons (.var 7) .nil))) .nil)) .nil)) (.var 6) (.ix (.var 8) (.cst (.int 1))) .nil) .nil)) .nil)) .nil))) (.cons (.var 0) .nil)))) (.cons (.ret (.cst (.bl false))) .nil) .nil) .nil))) (.cons (.ret (.cst (.bl true))) .nil)))))))))
def f42 : Fn := ⟨1, 10, b42⟩
def n42 : List String := ["complex_so", "width", "tips_so", "misses_so", "told", "faces_so", "one", "k", "rest", "two"]
/-- law(script): 0:script 1:turn 2:told 3:due! 4:sided_so 5:m 6:some 7:four 8:six 9:complex_so 10:other_so 11:one 12:call -/
def b43 : T := (.cons (.for_ (.var 1) (.rng1 (.bin .add (.cst (.int 1)) (.bi .min2 (.cons (.cst (.int 2)) (.cons (.bi .len (.cons (.var 0) .nil)) .nil))))) (.cons (.asg (.var 5) (.call 30 (.cons (.var 0) (.cons (.var 1) .nil)))) (.cons (.par (.cons (.var 9) (.cons (.var 10) .nil)) (.cons (.call 38 (.cons (.var 5) (.cons (.call 32 (.cons (.var 5) (.cons (.lst (.cons (.cst (.int 5)) (.cons (.cst (.int 6)) (.cons (.cst (.int 7)) .nil)))) .nil))) .nil))) (.cons (.call 38 (.cons (.var 5) (.cons (.cst (.int 3)) .nil))) .nil))) (.cons (.asg (.var 6) (.bin .add (.lst (.cons (.var 9) (.cons (.call 29 (.cons (.var 10) .nil)) (.cons (.call 29 (.cons (.call 29 (.cons (.var 10) .nil)) .nil)) .nil)))) (.ife (.cmp .lt (.ix (.var 9) (.cst (.int 0))) (.cst (.int 5))) (.lst (.cons (.call 28 (.cons (.var 9) (.cons (.var 10) .nil))) .nil)) (.lst .nil)))) (.cons (.ifs (.cmp .ne (.lc [11] (.cst (.int 1)) (.var 11) (.var 6) (.cons (.nt (.call 42 (.cons (.var 11) .nil))) .nil)) (.lst .nil)) (.cons (.ret (.cst (.bl false))) .nil) .nil) (.cons (.ifs (.and (.cmp .nmem (.ix (.var 9) (.cst (.int 0))) (.call 21 (.cons (.call 29 (.cons (.var 9) .nil)) .nil))) (.cmp .ne (.ix (.var 9) (.cst (.int 1))) (.tup .nil))) (.cons (.ret (.cst (.bl false))) .nil) .nil) .nil)))))) (.cons (.par (.cons (.var 7) (.cons (.var 8) .nil)) (.cons (.tup (.cons (.cst (.int 4)) (.cons (.tup (.cons (.tup (.cons (.cst (.int 0)) (.cons (.cst (.int 1)) .nil))) (.cons (.tup (.cons (.cst (.int 0)) (.cons (.cst (.int 3)) .nil))) (.cons (.tup (.cons (.cst (.int 1)) (.cons (.cst (.int 2)) .nil))) (.cons (.tup (.cons (.cst (.int 2)) (.cons (.cst (.int 3)) .nil))) .nil))))) .nil))) (.cons (.tup (.cons (.cst (.int 6)) (.cons (.tup (.cons (.tup (.cons (.cst (.int 0)) (.cons (.cst (.int 1)) (.cons (.cst (.int 2)) .nil)))) (.cons (.tup (.cons (.cst (.int 3)) (.cons (.cst (.int 4)) .nil))) .nil))) .nil))) .nil))) (.cons (.asg (.var 2) (.lc [11] (.lc [12] (.callV (.var 12) (.cons (.var 11) .nil)) (.var 12) (.tup (.cons (.fnv 18) (.cons (.fnv 20) (.cons (.fnv 21) (.cons (.fnv 23) .nil))))) .nil) (.var 11) (.tup (.cons (.tup (.cons (.cst (.int 2)) (.cons (.tup .nil) .nil))) (.cons (.tup (.cons (.cst (.int 2)) (.cons (.tup (.cons (.tup .nil) .nil)) .nil))) (.cons (.tup (.cons (.cst (.int 3)) (.cons (.tup (.cons (.tup (.cons (.cst (.int 0)) (.cons (.cst (.int 1)) (.cons (.cst (.int 2)) .nil)))) .nil)) .nil))) (.cons (.var 7) (.cons (.var 8) .nil)))))) .nil)) (.cons (.asgO 3 (.lst (.cons (.lst (.cons (.tup .nil) (.cons (.tup .nil) (.cons (.tup .nil) (.cons (.tup (.cons (.tup .nil) .nil)) .nil))))) (.cons (.lst (.cons (.tup .nil) (.cons (.tup .nil) (.cons (.tup .nil) (.cons (.tup (.cons (.tup (.cons (.cst (.int 0)) .nil)) (.cons (.tup (.cons (.cst (.int 1)) .nil)) .nil))) .nil))))) (.cons (.lst (.cons (.tup (.cons (.tup (.cons (.tup (.cons (.cst (.int 0)) (.cons (.cst (.int 1)) .nil))) (.cons (.cst (.int 1)) .nil))) (.cons (.tup (.cons (.tup (.cons (.cst (.int 0)) (.cons (.cst (.int 2)) .nil))) (.cons (.cst (.int 1)) .nil))) (.cons (.tup (.cons (.tup (.cons (.cst (.int 1)) (.cons (.cst (.int 2)) .nil))) (.cons (.cst (.int 1)) .nil))) .nil)))) (.cons (.tup (.cons (.tup (.cons (.cst (.int 0)) (.cons (.cst (.int 1)) (.cons (.cst (.int 2)) .nil)))) .nil)) (.cons (.tup (.cons (.cst (.int 0)) (.cons (.cst (.int 1)) (.cons (.cst (.int 2)) .nil)))) (.cons (.tup .nil) .nil))))) .nil))))) (.cons (.app 3 (.lst (.cons (.tup (.cons (.tup (.cons (.tup (.cons (.cst (.int 0)) .nil)) (.cons (.cst (.int 2)) .nil))) (.cons (.tup (.cons (.tup (.cons (.cst (.int 1)) .nil)) (.cons (.cst (.int 2)) .nil))) (.cons (.tup (.cons (.tup (.cons (.cst (.int 2)) .nil)) (.cons (.cst (.int 2)) .nil))) (.cons (.tup (.cons (.tup (.cons (.cst (.int 3)) .nil)) (.cons (.cst (.int 2)) .nil))) .nil))))) (.cons (.tup (.cons (.tup (.cons (.cst (.int 0)) (.cons (.cst (.int 1)) (.cons (.cst (.int 2)) (.cons (.cst (.int 3)) .nil))))) .nil)) (.cons (.tup .nil) (.cons (.tup (.cons (.tup (.cons (.cst (.int 0)) (.cons (.cst (.int 2)) .nil))) (.cons (.tup (.cons (.cst (.int 1)) (.cons (.cst (.int 3)) .nil))) .nil))) .nil)))))) (.cons (.asg (.var 4) (.tup (.cons (.tup (.cons (.tup (.cons (.cst (.int 0)) (.cons (.cst (.int 1)) .nil))) (.cons (.cst (.int 1)) .nil))) (.cons (.tup (.cons (.tup (.cons (.cst (.int 0)) (.cons (.cst (.int 2)) .nil))) (.cons (.cst (.int 1)) .nil))) (.cons (.tup (.cons (.tup (.cons (.cst (.int 1)) (.cons (.cst (.int 2)) .nil))) (.cons (.cst (.int 1)) .nil))) (.cons (.tup (.cons (.tup (.cons (.cst (.int 3)) .nil)) (.cons (.cst (.int 1)) .nil))) (.cons (.tup (.cons (.tup (.cons (.cst (.int 4)) .nil)) (.cons (.cst (.int 1)) .nil))) .nil))))))) (.cons (.app 3 (.lst (.cons (.var 4) (.cons (.tup (.cons (.tup (.cons (.cst (.int 0)) (.cons (.cst (.int 1)) (.cons (.cst (.int 2)) .nil)))) (.cons (.tup (.cons (.cst (.int 3)) (.cons (.cst (.int 4)) .nil))) .nil))) (.cons (.tup .nil) (.cons (.tup (.cons (.tup (.cons (.cst (.int 0)) (.cons (.cst (.int 3)) .nil))) (.cons (.tup (.cons (.cst (.int 0)) (.cons (.cst (.int 4)) .nil))) (.cons (.tup (.cons (.cst (.int 1)) (.cons (.cst (.int 3)) .nil))) (.cons (.tup (.cons (.cst (.int 1)) (.cons (.cst (.int 4)) .nil))) (.cons (.tup (.cons (.cst (.int 2)) (.cons (.cst (.int 3)) .nil))) (.cons (.tup (.cons (.cst (.int 2)) (.cons (.cst (.int 4)) .nil))) (.cons (.tup (.cons (.cst (.int 5)) .nil)) .nil)))))))) .nil)))))) (.cons (.fz 3) (.cons (.ret (.call 33 (.cons (.var 2) (.cons (.var 3) .nil)))) .nil)))))))))
def f43 : Fn := ⟨1, 13, b43⟩
def n43 : List String := ["script", "turn", "told", "due", "sided_so", "m", "some", "four", "six", "complex_so", "other_so", "one", "call"]
def fns : List Fn := [f0, f1, f2, f3, f4, f5, f6, f7, f8, f9, f10, f11, f12, f13, f14, f15, f16, f17, f18, f19, f20, f21, f22, f23, f24, f25, f26, f27, f28, f29, f30, f31, f32, f33, f34, f35, f36, f37, f38, f39, f40, f41, f42, f43]
def P : Prog := ⟨consts, fns⟩
end T08
end

section
set_option autoImplicit false
set_option Elab.async false
set_option linter.all false
set_option maxRecDepth 100000
set_option maxHeartbeats 4000000
namespace E08
open PySem PySem.Spec PyProof.Rows L2 Snd
def top (i : Nat) : Stmt := PySem.Challenge.pw_stairfaces_k08_walls_parts_tips.main.body.getD i (.Pass ⟨0, 0, 0, 0⟩)
abbrev s0 : Stmt := top 6
abbrev s1 : Stmt := top 7
abbrev s2 : Stmt := top 10
abbrev s3 : Stmt := top 11
abbrev s4 : Stmt := top 12
abbrev s5 : Stmt := top 13
abbrev s6 : Stmt := top 14
abbrev s7 : Stmt := top 15
abbrev s8 : Stmt := top 16
abbrev s9 : Stmt := top 17
abbrev s10 : Stmt := top 18
abbrev s11 : Stmt := top 19
abbrev s12 : Stmt := top 20
abbrev s13 : Stmt := top 21
abbrev s14 : Stmt := top 22
abbrev s15 : Stmt := top 24
abbrev s16 : Stmt := top 25
abbrev s17 : Stmt := top 26
abbrev s18 : Stmt := top 27
abbrev s19 : Stmt := top 28
abbrev s20 : Stmt := top 29
abbrev s21 : Stmt := top 30
abbrev s22 : Stmt := top 31
abbrev s23 : Stmt := top 32
abbrev s24 : Stmt := top 35
abbrev s25 : Stmt := top 36
abbrev s26 : Stmt := top 37
abbrev s27 : Stmt := top 38
abbrev s28 : Stmt := top 39
abbrev s29 : Stmt := top 40
abbrev s30 : Stmt := top 42
abbrev s31 : Stmt := top 43
abbrev s32 : Stmt := top 44
abbrev s33 : Stmt := top 45
abbrev s34 : Stmt := top 46
abbrev s35 : Stmt := top 47
abbrev s36 : Stmt := top 48
abbrev s37 : Stmt := top 49
abbrev s38 : Stmt := top 50
abbrev s39 : Stmt := top 51
abbrev s40 : Stmt := top 52
abbrev s41 : Stmt := top 53
abbrev s42 : Stmt := top 54
abbrev s43 : Stmt := top 55
def names : List Str := (["is_integer", "is_from", "is_lot", "need_lot", "lies_in", "facets_fault", "complex_fault", "need_complex"] : List Str) ++ (["need_complexes", "greatest_in", "complex_in", "lots_within", "faces_in", "is_face_in", "places_in", "less_lot"] : List Str) ++ (["without_in", "without", "walls_of", "spread_in", "parts_of", "tips_of", "misses_in", "misses_of"] : List Str) ++ (["behind_in", "let_many", "joined_in", "beside_in", "beside", "coned", "_law_begun", "_law_draw"] : List Str) ++ (["_law_of", "_law_like", "_law_subsets", "_law_lies", "_law_greatest", "_law_faces", "_law_some_complex", "_law_one_less"] : List Str) ++ (["_law_parts", "_law_misses", "_law_right", "law"] : List Str)
def nm (n : Nat) : Str := (names[n]?).getD "law"
def mc : Mc where
  N := []
  fns := ([(("is_integer" : Str), 0), (("is_from" : Str), 1), (("is_lot" : Str), 2), (("need_lot" : Str), 3), (("lies_in" : Str), 4), (("facets_fault" : Str), 5), (("complex_fault" : Str), 6), (("need_complex" : Str), 7)] : List (Str × Nat)) ++ ([(("need_complexes" : Str), 8), (("greatest_in" : Str), 9), (("complex_in" : Str), 10), (("lots_within" : Str), 11), (("faces_in" : Str), 12), (("is_face_in" : Str), 13), (("places_in" : Str), 14), (("less_lot" : Str), 15)] : List (Str × Nat)) ++ ([(("without_in" : Str), 16), (("without" : Str), 17), (("walls_of" : Str), 18), (("spread_in" : Str), 19), (("parts_of" : Str), 20), (("tips_of" : Str), 21), (("misses_in" : Str), 22), (("misses_of" : Str), 23)] : List (Str × Nat)) ++ ([(("behind_in" : Str), 24), (("let_many" : Str), 25), (("joined_in" : Str), 26), (("beside_in" : Str), 27), (("beside" : Str), 28), (("coned" : Str), 29), (("_law_begun" : Str), 30), (("_law_draw" : Str), 31)] : List (Str × Nat)) ++ ([(("_law_of" : Str), 32), (("_law_like" : Str), 33), (("_law_subsets" : Str), 34), (("_law_lies" : Str), 35), (("_law_greatest" : Str), 36), (("_law_faces" : Str), 37), (("_law_some_complex" : Str), 38), (("_law_one_less" : Str), 39)] : List (Str × Nat)) ++ ([(("_law_parts" : Str), 40), (("_law_misses" : Str), 41), (("_law_right" : Str), 42), (("law" : Str), 43)] : List (Str × Nat))
  csts := ([(("MOST_PLACES" : Str), 0), (("POINT" : Str), 1)] : List (Str × Nat))
  bts := (["len", "int", "min", "tuple", "list", "any", "all", "repr"] : List Str) ++ (["sorted", "set", "isinstance", "bool", "range", "enumerate", "zip"] : List Str)
  kws := [(18, 0, (["body"] : List Str), [0]), (20, 0, (["body"] : List Str), [0]), (21, 0, (["body"] : List Str), [0]), (23, 0, (["body"] : List Str), [0])]
section
variable {K : PySem.W.Frag} {fd : FuncData}
theorem m0 : mSs { mc with N := ["value"] } (defScope s0) T08.f0.body (defBody s0) = true := by decide +kernel
theorem r0 (F : FunD K "is_integer" "is_integer" (defArgs s0) (defBody s0) (defScope s0) [] [] (He.ga K "is_integer") fd) : DefR K (fun n => He.ga K (nm n)) mc 0 T08.f0 :=
  ⟨_, _, _, _, _, fd, ["value"], ["value"], F, ⟨rfl, rfl, rfl, by decide +kernel, rfl, by decide +kernel, by decide +kernel⟩, m0, rfl, rfl, fun s us hl => F.bindsA (fun _ _ _ _ _ _ us hl => match us, hl with | [_], _ => rfl) s us hl, fun e he hk => absurd hk ((show ∀ e ∈ mc.kws, e.1 ≠ 0 by decide) e he)⟩
theorem m1 : mSs { mc with N := ["value", "least", "most"] } (defScope s1) T08.f1.body (defBody s1) = true := by decide +kernel
theorem r1 (F : FunD K "is_from" "is_from" (defArgs s1) (defBody s1) (defScope s1) [] [] (He.ga K "is_from") fd) : DefR K (fun n => He.ga K (nm n)) mc 1 T08.f1 :=
  ⟨_, _, _, _, _, fd, ["value", "least", "most"], ["value", "least", "most"], F, ⟨rfl, rfl, rfl, by decide +kernel, rfl, by decide +kernel, by decide +kernel⟩, m1, rfl, rfl, fun s us hl => F.bindsA (fun _ _ _ _ _ _ us hl => match us, hl with | [_, _, _], _ => rfl) s us hl, fun e he hk => absurd hk ((show ∀ e ∈ mc.kws, e.1 ≠ 1 by decide) e he)⟩
theorem m2 : mSs { mc with N := ["many", "value", "near", "far", "one"] } (defScope s2) T08.f2.body (defBody s2) = true := by decide +kernel
theorem r2 (F : FunD K "is_lot" "is_lot" (defArgs s2) (defBody s2) (defScope s2) [] [] (He.ga K "is_lot") fd) : DefR K (fun n => He.ga K (nm n)) mc 2 T08.f2 :=
  ⟨_, _, _, _, _, fd, ["many", "value", "near", "far", "one"], ["many", "value"], F, ⟨rfl, rfl, rfl, by decide +kernel, rfl, by decide +kernel, by decide +kernel⟩, m2, rfl, rfl, fun s us hl => F.bindsA (fun _ _ _ _ _ _ us hl => match us, hl with | [_, _], _ => rfl) s us hl, fun e he hk => absurd hk ((show ∀ e ∈ mc.kws, e.1 ≠ 2 by decide) e he)⟩
theorem m3 : mSs { mc with N := ["many", "lot"] } (defScope s3) T08.f3.body (defBody s3) = true := by decide +kernel
theorem r3 (F : FunD K "need_lot" "need_lot" (defArgs s3) (defBody s3) (defScope s3) [] [] (He.ga K "need_lot") fd) : DefR K (fun n => He.ga K (nm n)) mc 3 T08.f3 :=
  ⟨_, _, _, _, _, fd, ["many", "lot"], ["many", "lot"], F, ⟨rfl, rfl, rfl, by decide +kernel, rfl, by decide +kernel, by decide +kernel⟩, m3, rfl, rfl, fun s us hl => F.bindsA (fun _ _ _ _ _ _ us hl => match us, hl with | [_, _], _ => rfl) s us hl, fun e he hk => absurd hk ((show ∀ e ∈ mc.kws, e.1 ≠ 3 by decide) e he)⟩
theorem m4 : mSs { mc with N := ["near", "far", "one"] } (defScope s4) T08.f4.body (defBody s4) = true := by decide +kernel
theorem r4 (F : FunD K "lies_in" "lies_in" (defArgs s4) (defBody s4) (defScope s4) [] [] (He.ga K "lies_in") fd) : DefR K (fun n => He.ga K (nm n)) mc 4 T08.f4 :=
  ⟨_, _, _, _, _, fd, ["near", "far", "one"], ["near", "far"], F, ⟨rfl, rfl, rfl, by decide +kernel, rfl, by decide +kernel, by decide +kernel⟩, m4, rfl, rfl, fun s us hl => F.bindsA (fun _ _ _ _ _ _ us hl => match us, hl with | [_, _], _ => rfl) s us hl, fun e he hk => absurd hk ((show ∀ e ∈ mc.kws, e.1 ≠ 4 by decide) e he)⟩
theorem m5 : mSs { mc with N := ["many", "facets", "number", "facet", "ahead", "one"] } (defScope s5) T08.f5.body (defBody s5) = true := by decide +kernel
theorem r5 (F : FunD K "facets_fault" "facets_fault" (defArgs s5) (defBody s5) (defScope s5) [] [] (He.ga K "facets_fault") fd) : DefR K (fun n => He.ga K (nm n)) mc 5 T08.f5 :=
  ⟨_, _, _, _, _, fd, ["many", "facets", "number", "facet", "ahead", "one"], ["many", "facets"], F, ⟨rfl, rfl, rfl, by decide +kernel, rfl, by decide +kernel, by decide +kernel⟩, m5, rfl, rfl, fun s us hl => F.bindsA (fun _ _ _ _ _ _ us hl => match us, hl with | [_, _], _ => rfl) s us hl, fun e he hk => absurd hk ((show ∀ e ∈ mc.kws, e.1 ≠ 5 by decide) e he)⟩
theorem m6 : mSs { mc with N := ["value", "found"] } (defScope s6) T08.f6.body (defBody s6) = true := by decide +kernel
theorem r6 (F : FunD K "complex_fault" "complex_fault" (defArgs s6) (defBody s6) (defScope s6) [] [] (He.ga K "complex_fault") fd) : DefR K (fun n => He.ga K (nm n)) mc 6 T08.f6 :=
  ⟨_, _, _, _, _, fd, ["value", "found"], ["value"], F, ⟨rfl, rfl, rfl, by decide +kernel, rfl, by decide +kernel, by decide +kernel⟩, m6, rfl, rfl, fun s us hl => F.bindsA (fun _ _ _ _ _ _ us hl => match us, hl with | [_], _ => rfl) s us hl, fun e he hk => absurd hk ((show ∀ e ∈ mc.kws, e.1 ≠ 6 by decide) e he)⟩
theorem m7 : mSs { mc with N := ["body", "found"] } (defScope s7) T08.f7.body (defBody s7) = true := by decide +kernel
theorem r7 (F : FunD K "need_complex" "need_complex" (defArgs s7) (defBody s7) (defScope s7) [] [] (He.ga K "need_complex") fd) : DefR K (fun n => He.ga K (nm n)) mc 7 T08.f7 :=
  ⟨_, _, _, _, _, fd, ["body", "found"], ["body"], F, ⟨rfl, rfl, rfl, by decide +kernel, rfl, by decide +kernel, by decide +kernel⟩, m7, rfl, rfl, fun s us hl => F.bindsA (fun _ _ _ _ _ _ us hl => match us, hl with | [_], _ => rfl) s us hl, fun e he hk => absurd hk ((show ∀ e ∈ mc.kws, e.1 ≠ 7 by decide) e he)⟩
theorem m8 : mSs { mc with N := ["body", "other"] } (defScope s8) T08.f8.body (defBody s8) = true := by decide +kernel
theorem r8 (F : FunD K "need_complexes" "need_complexes" (defArgs s8) (defBody s8) (defScope s8) [] [] (He.ga K "need_complexes") fd) : DefR K (fun n => He.ga K (nm n)) mc 8 T08.f8 :=
  ⟨_, _, _, _, _, fd, ["body", "other"], ["body", "other"], F, ⟨rfl, rfl, rfl, by decide +kernel, rfl, by decide +kernel, by decide +kernel⟩, m8, rfl, rfl, fun s us hl => F.bindsA (fun _ _ _ _ _ _ us hl => match us, hl with | [_, _], _ => rfl) s us hl, fun e he hk => absurd hk ((show ∀ e ∈ mc.kws, e.1 ≠ 8 by decide) e he)⟩
theorem m9 : mSs { mc with N := ["lots", "found", "lot", "one"] } (defScope s9) T08.f9.body (defBody s9) = true := by decide +kernel
theorem r9 (F : FunD K "greatest_in" "greatest_in" (defArgs s9) (defBody s9) (defScope s9) [] [] (He.ga K "greatest_in") fd) : DefR K (fun n => He.ga K (nm n)) mc 9 T08.f9 :=
  ⟨_, _, _, _, _, fd, ["lots", "found", "lot", "one"], ["lots"], F, ⟨rfl, rfl, rfl, by decide +kernel, rfl, by decide +kernel, by decide +kernel⟩, m9, rfl, rfl, fun s us hl => F.bindsA (fun _ _ _ _ _ _ us hl => match us, hl with | [_], _ => rfl) s us hl, fun e he hk => absurd hk ((show ∀ e ∈ mc.kws, e.1 ≠ 9 by decide) e he)⟩
theorem m10 : mSs { mc with N := ["many", "lots"] } (defScope s10) T08.f10.body (defBody s10) = true := by decide +kernel
theorem r10 (F : FunD K "complex_in" "complex_in" (defArgs s10) (defBody s10) (defScope s10) [] [] (He.ga K "complex_in") fd) : DefR K (fun n => He.ga K (nm n)) mc 10 T08.f10 :=
  ⟨_, _, _, _, _, fd, ["many", "lots"], ["many", "lots"], F, ⟨rfl, rfl, rfl, by decide +kernel, rfl, by decide +kernel, by decide +kernel⟩, m10, rfl, rfl, fun s us hl => F.bindsA (fun _ _ _ _ _ _ us hl => match us, hl with | [_, _], _ => rfl) s us hl, fun e he hk => absurd hk ((show ∀ e ∈ mc.kws, e.1 ≠ 10 by decide) e he)⟩
theorem m11 : mSs { mc with N := ["lot", "found", "place", "one"] } (defScope s11) T08.f11.body (defBody s11) = true := by decide +kernel
theorem r11 (F : FunD K "lots_within" "lots_within" (defArgs s11) (defBody s11) (defScope s11) [] [] (He.ga K "lots_within") fd) : DefR K (fun n => He.ga K (nm n)) mc 11 T08.f11 :=
  ⟨_, _, _, _, _, fd, ["lot", "found", "place", "one"], ["lot"], F, ⟨rfl, rfl, rfl, by decide +kernel, rfl, by decide +kernel, by decide +kernel⟩, m11, rfl, rfl, fun s us hl => F.bindsA (fun _ _ _ _ _ _ us hl => match us, hl with | [_], _ => rfl) s us hl, fun e he hk => absurd hk ((show ∀ e ∈ mc.kws, e.1 ≠ 11 by decide) e he)⟩
theorem m12 : mSs { mc with N := ["body", "found", "facet", "lot"] } (defScope s12) T08.f12.body (defBody s12) = true := by decide +kernel
theorem r12 (F : FunD K "faces_in" "faces_in" (defArgs s12) (defBody s12) (defScope s12) [] [] (He.ga K "faces_in") fd) : DefR K (fun n => He.ga K (nm n)) mc 12 T08.f12 :=
  ⟨_, _, _, _, _, fd, ["body", "found", "facet", "lot"], ["body"], F, ⟨rfl, rfl, rfl, by decide +kernel, rfl, by decide +kernel, by decide +kernel⟩, m12, rfl, rfl, fun s us hl => F.bindsA (fun _ _ _ _ _ _ us hl => match us, hl with | [_], _ => rfl) s us hl, fun e he hk => absurd hk ((show ∀ e ∈ mc.kws, e.1 ≠ 12 by decide) e he)⟩
theorem m13 : mSs { mc with N := ["body", "lot", "facet"] } (defScope s13) T08.f13.body (defBody s13) = true := by decide +kernel
theorem r13 (F : FunD K "is_face_in" "is_face_in" (defArgs s13) (defBody s13) (defScope s13) [] [] (He.ga K "is_face_in") fd) : DefR K (fun n => He.ga K (nm n)) mc 13 T08.f13 :=
  ⟨_, _, _, _, _, fd, ["body", "lot", "facet"], ["body", "lot"], F, ⟨rfl, rfl, rfl, by decide +kernel, rfl, by decide +kernel, by decide +kernel⟩, m13, rfl, rfl, fun s us hl => F.bindsA (fun _ _ _ _ _ _ us hl => match us, hl with | [_, _], _ => rfl) s us hl, fun e he hk => absurd hk ((show ∀ e ∈ mc.kws, e.1 ≠ 13 by decide) e he)⟩
theorem m14 : mSs { mc with N := ["body", "place"] } (defScope s14) T08.f14.body (defBody s14) = true := by decide +kernel
theorem r14 (F : FunD K "places_in" "places_in" (defArgs s14) (defBody s14) (defScope s14) [] [] (He.ga K "places_in") fd) : DefR K (fun n => He.ga K (nm n)) mc 14 T08.f14 :=
  ⟨_, _, _, _, _, fd, ["body", "place"], ["body"], F, ⟨rfl, rfl, rfl, by decide +kernel, rfl, by decide +kernel, by decide +kernel⟩, m14, rfl, rfl, fun s us hl => F.bindsA (fun _ _ _ _ _ _ us hl => match us, hl with | [_], _ => rfl) s us hl, fun e he hk => absurd hk ((show ∀ e ∈ mc.kws, e.1 ≠ 14 by decide) e he)⟩
theorem m15 : mSs { mc with N := ["lot", "other", "place"] } (defScope s15) T08.f15.body (defBody s15) = true := by decide +kernel
theorem r15 (F : FunD K "less_lot" "less_lot" (defArgs s15) (defBody s15) (defScope s15) [] [] (He.ga K "less_lot") fd) : DefR K (fun n => He.ga K (nm n)) mc 15 T08.f15 :=
  ⟨_, _, _, _, _, fd, ["lot", "other", "place"], ["lot", "other"], F, ⟨rfl, rfl, rfl, by decide +kernel, rfl, by decide +kernel, by decide +kernel⟩, m15, rfl, rfl, fun s us hl => F.bindsA (fun _ _ _ _ _ _ us hl => match us, hl with | [_, _], _ => rfl) s us hl, fun e he hk => absurd hk ((show ∀ e ∈ mc.kws, e.1 ≠ 15 by decide) e he)⟩
theorem m16 : mSs { mc with N := ["body", "lot", "found", "facet", "place"] } (defScope s16) T08.f16.body (defBody s16) = true := by decide +kernel
theorem r16 (F : FunD K "without_in" "without_in" (defArgs s16) (defBody s16) (defScope s16) [] [] (He.ga K "without_in") fd) : DefR K (fun n => He.ga K (nm n)) mc 16 T08.f16 :=
  ⟨_, _, _, _, _, fd, ["body", "lot", "found", "facet", "place"], ["body", "lot"], F, ⟨rfl, rfl, rfl, by decide +kernel, rfl, by decide +kernel, by decide +kernel⟩, m16, rfl, rfl, fun s us hl => F.bindsA (fun _ _ _ _ _ _ us hl => match us, hl with | [_, _], _ => rfl) s us hl, fun e he hk => absurd hk ((show ∀ e ∈ mc.kws, e.1 ≠ 16 by decide) e he)⟩
theorem m17 : mSs { mc with N := ["body", "lot"] } (defScope s17) T08.f17.body (defBody s17) = true := by decide +kernel
theorem r17 (F : FunD K "without" "without" (defArgs s17) (defBody s17) (defScope s17) [] [] (He.ga K "without") fd) : DefR K (fun n => He.ga K (nm n)) mc 17 T08.f17 :=
  ⟨_, _, _, _, _, fd, ["body", "lot"], ["body", "lot"], F, ⟨rfl, rfl, rfl, by decide +kernel, rfl, by decide +kernel, by decide +kernel⟩, m17, rfl, rfl, fun s us hl => F.bindsA (fun _ _ _ _ _ _ us hl => match us, hl with | [_, _], _ => rfl) s us hl, fun e he hk => absurd hk ((show ∀ e ∈ mc.kws, e.1 ≠ 17 by decide) e he)⟩
theorem m18 : mSs { mc with N := ["body", "found", "facet", "place", "wall"] } (defScope s18) T08.f18.body (defBody s18) = true := by decide +kernel
theorem k18 (F : FunD K "walls_of" "walls_of" (defArgs s18) (defBody s18) (defScope s18) [] [] (He.ga K "walls_of") fd) : ∀ e ∈ mc.kws, e.1 = 18 → KwB fd ["body"] e.2.1 e.2.2.1 e.2.2.2 := by
  intro e he hk
  have h : e = (18, 0, (["body"] : List Str), [0]) := by
    revert e; decide
  rcases h with rfl
  · refine kwB_of F fun kV doc pm an cdv ct us ws zs h1 h2 h3 => ?_
    match us, ws, h1, h2, h3 with
    | [], [w0], _, _, h3 =>
      have e : zs = [w0] := by simpa [permL] using h3.symm
      subst e; rfl
theorem r18 (F : FunD K "walls_of" "walls_of" (defArgs s18) (defBody s18) (defScope s18) [] [] (He.ga K "walls_of") fd) : DefR K (fun n => He.ga K (nm n)) mc 18 T08.f18 :=
  ⟨_, _, _, _, _, fd, ["body", "found", "facet", "place", "wall"], ["body"], F, ⟨rfl, rfl, rfl, by decide +kernel, rfl, by decide +kernel, by decide +kernel⟩, m18, rfl, rfl, fun s us hl => F.bindsA (fun _ _ _ _ _ _ us hl => match us, hl with | [_], _ => rfl) s us hl, k18 F⟩
theorem m19 : mSs { mc with N := ["body", "place", "found", "number", "facet", "one"] } (defScope s19) T08.f19.body (defBody s19) = true := by decide +kernel
theorem r19 (F : FunD K "spread_in" "spread_in" (defArgs s19) (defBody s19) (defScope s19) [] [] (He.ga K "spread_in") fd) : DefR K (fun n => He.ga K (nm n)) mc 19 T08.f19 :=
  ⟨_, _, _, _, _, fd, ["body", "place", "found", "number", "facet", "one"], ["body", "place"], F, ⟨rfl, rfl, rfl, by decide +kernel, rfl, by decide +kernel, by decide +kernel⟩, m19, rfl, rfl, fun s us hl => F.bindsA (fun _ _ _ _ _ _ us hl => match us, hl with | [_, _], _ => rfl) s us hl, fun e he hk => absurd hk ((show ∀ e ∈ mc.kws, e.1 ≠ 19 by decide) e he)⟩
theorem m20 : mSs { mc with N := ["body", "place"] } (defScope s20) T08.f20.body (defBody s20) = true := by decide +kernel
theorem k20 (F : FunD K "parts_of" "parts_of" (defArgs s20) (defBody s20) (defScope s20) [] [] (He.ga K "parts_of") fd) : ∀ e ∈ mc.kws, e.1 = 20 → KwB fd ["body"] e.2.1 e.2.2.1 e.2.2.2 := by
  intro e he hk
  have h : e = (20, 0, (["body"] : List Str), [0]) := by
    revert e; decide
  rcases h with rfl
  · refine kwB_of F fun kV doc pm an cdv ct us ws zs h1 h2 h3 => ?_
    match us, ws, h1, h2, h3 with
    | [], [w0], _, _, h3 =>
      have e : zs = [w0] := by simpa [permL] using h3.symm
      subst e; rfl
theorem r20 (F : FunD K "parts_of" "parts_of" (defArgs s20) (defBody s20) (defScope s20) [] [] (He.ga K "parts_of") fd) : DefR K (fun n => He.ga K (nm n)) mc 20 T08.f20 :=
  ⟨_, _, _, _, _, fd, ["body", "place"], ["body"], F, ⟨rfl, rfl, rfl, by decide +kernel, rfl, by decide +kernel, by decide +kernel⟩, m20, rfl, rfl, fun s us hl => F.bindsA (fun _ _ _ _ _ _ us hl => match us, hl with | [_], _ => rfl) s us hl, k20 F⟩
theorem m21 : mSs { mc with N := ["body", "facets", "place", "facet"] } (defScope s21) T08.f21.body (defBody s21) = true := by decide +kernel
theorem k21 (F : FunD K "tips_of" "tips_of" (defArgs s21) (defBody s21) (defScope s21) [] [] (He.ga K "tips_of") fd) : ∀ e ∈ mc.kws, e.1 = 21 → KwB fd ["body"] e.2.1 e.2.2.1 e.2.2.2 := by
  intro e he hk
  have h : e = (21, 0, (["body"] : List Str), [0]) := by
    revert e; decide
  rcases h with rfl
  · refine kwB_of F fun kV doc pm an cdv ct us ws zs h1 h2 h3 => ?_
    match us, ws, h1, h2, h3 with
    | [], [w0], _, _, h3 =>
      have e : zs = [w0] := by simpa [permL] using h3.symm
      subst e; rfl
theorem r21 (F : FunD K "tips_of" "tips_of" (defArgs s21) (defBody s21) (defScope s21) [] [] (He.ga K "tips_of") fd) : DefR K (fun n => He.ga K (nm n)) mc 21 T08.f21 :=
  ⟨_, _, _, _, _, fd, ["body", "facets", "place", "facet"], ["body"], F, ⟨rfl, rfl, rfl, by decide +kernel, rfl, by decide +kernel, by decide +kernel⟩, m21, rfl, rfl, fun s us hl => F.bindsA (fun _ _ _ _ _ _ us hl => match us, hl with | [_], _ => rfl) s us hl, k21 F⟩
theorem m22 : mSs { mc with N := ["body", "faces", "found", "lot", "face", "place"] } (defScope s22) T08.f22.body (defBody s22) = true := by decide +kernel
theorem r22 (F : FunD K "misses_in" "misses_in" (defArgs s22) (defBody s22) (defScope s22) [] [] (He.ga K "misses_in") fd) : DefR K (fun n => He.ga K (nm n)) mc 22 T08.f22 :=
  ⟨_, _, _, _, _, fd, ["body", "faces", "found", "lot", "face", "place"], ["body"], F, ⟨rfl, rfl, rfl, by decide +kernel, rfl, by decide +kernel, by decide +kernel⟩, m22, rfl, rfl, fun s us hl => F.bindsA (fun _ _ _ _ _ _ us hl => match us, hl with | [_], _ => rfl) s us hl, fun e he hk => absurd hk ((show ∀ e ∈ mc.kws, e.1 ≠ 22 by decide) e he)⟩
theorem m23 : mSs { mc with N := ["body"] } (defScope s23) T08.f23.body (defBody s23) = true := by decide +kernel
theorem k23 (F : FunD K "misses_of" "misses_of" (defArgs s23) (defBody s23) (defScope s23) [] [] (He.ga K "misses_of") fd) : ∀ e ∈ mc.kws, e.1 = 23 → KwB fd ["body"] e.2.1 e.2.2.1 e.2.2.2 := by
  intro e he hk
  have h : e = (23, 0, (["body"] : List Str), [0]) := by
    revert e; decide
  rcases h with rfl
  · refine kwB_of F fun kV doc pm an cdv ct us ws zs h1 h2 h3 => ?_
    match us, ws, h1, h2, h3 with
    | [], [w0], _, _, h3 =>
      have e : zs = [w0] := by simpa [permL] using h3.symm
      subst e; rfl
theorem r23 (F : FunD K "misses_of" "misses_of" (defArgs s23) (defBody s23) (defScope s23) [] [] (He.ga K "misses_of") fd) : DefR K (fun n => He.ga K (nm n)) mc 23 T08.f23 :=
  ⟨_, _, _, _, _, fd, ["body"], ["body"], F, ⟨rfl, rfl, rfl, by decide +kernel, rfl, by decide +kernel, by decide +kernel⟩, m23, rfl, rfl, fun s us hl => F.bindsA (fun _ _ _ _ _ _ us hl => match us, hl with | [_], _ => rfl) s us hl, k23 F⟩
theorem m24 : mSs { mc with N := ["body", "many", "facet", "place"] } (defScope s24) T08.f24.body (defBody s24) = true := by decide +kernel
theorem r24 (F : FunD K "behind_in" "behind_in" (defArgs s24) (defBody s24) (defScope s24) [] [] (He.ga K "behind_in") fd) : DefR K (fun n => He.ga K (nm n)) mc 24 T08.f24 :=
  ⟨_, _, _, _, _, fd, ["body", "many", "facet", "place"], ["body", "many"], F, ⟨rfl, rfl, rfl, by decide +kernel, rfl, by decide +kernel, by decide +kernel⟩, m24, rfl, rfl, fun s us hl => F.bindsA (fun _ _ _ _ _ _ us hl => match us, hl with | [_, _], _ => rfl) s us hl, fun e he hk => absurd hk ((show ∀ e ∈ mc.kws, e.1 ≠ 24 by decide) e he)⟩
theorem m25 : mSs { mc with N := ["many"] } (defScope s25) T08.f25.body (defBody s25) = true := by decide +kernel
theorem r25 (F : FunD K "let_many" "let_many" (defArgs s25) (defBody s25) (defScope s25) [] [] (He.ga K "let_many") fd) : DefR K (fun n => He.ga K (nm n)) mc 25 T08.f25 :=
  ⟨_, _, _, _, _, fd, ["many"], ["many"], F, ⟨rfl, rfl, rfl, by decide +kernel, rfl, by decide +kernel, by decide +kernel⟩, m25, rfl, rfl, fun s us hl => F.bindsA (fun _ _ _ _ _ _ us hl => match us, hl with | [_], _ => rfl) s us hl, fun e he hk => absurd hk ((show ∀ e ∈ mc.kws, e.1 ≠ 25 by decide) e he)⟩
theorem m26 : mSs { mc with N := ["body", "other", "many", "found", "facet", "far"] } (defScope s26) T08.f26.body (defBody s26) = true := by decide +kernel
theorem r26 (F : FunD K "joined_in" "joined_in" (defArgs s26) (defBody s26) (defScope s26) [] [] (He.ga K "joined_in") fd) : DefR K (fun n => He.ga K (nm n)) mc 26 T08.f26 :=
  ⟨_, _, _, _, _, fd, ["body", "other", "many", "found", "facet", "far"], ["body", "other"], F, ⟨rfl, rfl, rfl, by decide +kernel, rfl, by decide +kernel, by decide +kernel⟩, m26, rfl, rfl, fun s us hl => F.bindsA (fun _ _ _ _ _ _ us hl => match us, hl with | [_, _], _ => rfl) s us hl, fun e he hk => absurd hk ((show ∀ e ∈ mc.kws, e.1 ≠ 26 by decide) e he)⟩
theorem m27 : mSs { mc with N := ["body", "other", "many"] } (defScope s27) T08.f27.body (defBody s27) = true := by decide +kernel
theorem r27 (F : FunD K "beside_in" "beside_in" (defArgs s27) (defBody s27) (defScope s27) [] [] (He.ga K "beside_in") fd) : DefR K (fun n => He.ga K (nm n)) mc 27 T08.f27 :=
  ⟨_, _, _, _, _, fd, ["body", "other", "many"], ["body", "other"], F, ⟨rfl, rfl, rfl, by decide +kernel, rfl, by decide +kernel, by decide +kernel⟩, m27, rfl, rfl, fun s us hl => F.bindsA (fun _ _ _ _ _ _ us hl => match us, hl with | [_, _], _ => rfl) s us hl, fun e he hk => absurd hk ((show ∀ e ∈ mc.kws, e.1 ≠ 27 by decide) e he)⟩
theorem m28 : mSs { mc with N := ["body", "other"] } (defScope s28) T08.f28.body (defBody s28) = true := by decide +kernel
theorem r28 (F : FunD K "beside" "beside" (defArgs s28) (defBody s28) (defScope s28) [] [] (He.ga K "beside") fd) : DefR K (fun n => He.ga K (nm n)) mc 28 T08.f28 :=
  ⟨_, _, _, _, _, fd, ["body", "other"], ["body", "other"], F, ⟨rfl, rfl, rfl, by decide +kernel, rfl, by decide +kernel, by decide +kernel⟩, m28, rfl, rfl, fun s us hl => F.bindsA (fun _ _ _ _ _ _ us hl => match us, hl with | [_, _], _ => rfl) s us hl, fun e he hk => absurd hk ((show ∀ e ∈ mc.kws, e.1 ≠ 28 by decide) e he)⟩
theorem m29 : mSs { mc with N := ["body"] } (defScope s29) T08.f29.body (defBody s29) = true := by decide +kernel
theorem r29 (F : FunD K "coned" "coned" (defArgs s29) (defBody s29) (defScope s29) [] [] (He.ga K "coned") fd) : DefR K (fun n => He.ga K (nm n)) mc 29 T08.f29 :=
  ⟨_, _, _, _, _, fd, ["body"], ["body"], F, ⟨rfl, rfl, rfl, by decide +kernel, rfl, by decide +kernel, by decide +kernel⟩, m29, rfl, rfl, fun s us hl => F.bindsA (fun _ _ _ _ _ _ us hl => match us, hl with | [_], _ => rfl) s us hl, fun e he hk => absurd hk ((show ∀ e ∈ mc.kws, e.1 ≠ 29 by decide) e he)⟩
theorem m30 : mSs { mc with N := ["script", "turn", "cells", "great", "seed", "cell"] } (defScope s30) T08.f30.body (defBody s30) = true := by decide +kernel
theorem r30 (F : FunD K "_law_begun" "_law_begun" (defArgs s30) (defBody s30) (defScope s30) [] [] (He.ga K "_law_begun") fd) : DefR K (fun n => He.ga K (nm n)) mc 30 T08.f30 :=
  ⟨_, _, _, _, _, fd, ["script", "turn", "cells", "great", "seed", "cell"], ["script", "turn"], F, ⟨rfl, rfl, rfl, by decide +kernel, rfl, by decide +kernel, by decide +kernel⟩, m30, rfl, rfl, fun s us hl => F.bindsA (fun _ _ _ _ _ _ us hl => match us, hl with | [_, _], _ => rfl) s us hl, fun e he hk => absurd hk ((show ∀ e ∈ mc.kws, e.1 ≠ 30 by decide) e he)⟩
theorem m31 : mSs { mc with N := ["m", "span", "spot", "cell", "blend", "found", "cells", "extra"] } (defScope s31) T08.f31.body (defBody s31) = true := by decide +kernel
theorem r31 (F : FunD K "_law_draw" "_law_draw" (defArgs s31) (defBody s31) (defScope s31) [] [] (He.ga K "_law_draw") fd) : DefR K (fun n => He.ga K (nm n)) mc 31 T08.f31 :=
  ⟨_, _, _, _, _, fd, ["m", "span", "spot", "cell", "blend", "found", "cells", "extra"], ["m", "span"], F, ⟨rfl, rfl, rfl, by decide +kernel, rfl, by decide +kernel, by decide +kernel⟩, m31, rfl, rfl, fun s us hl => F.bindsA (fun _ _ _ _ _ _ us hl => match us, hl with | [_, _], _ => rfl) s us hl, fun e he hk => absurd hk ((show ∀ e ∈ mc.kws, e.1 ≠ 31 by decide) e he)⟩
theorem m32 : mSs { mc with N := ["m", "some"] } (defScope s32) T08.f32.body (defBody s32) = true := by decide +kernel
theorem r32 (F : FunD K "_law_of" "_law_of" (defArgs s32) (defBody s32) (defScope s32) [] [] (He.ga K "_law_of") fd) : DefR K (fun n => He.ga K (nm n)) mc 32 T08.f32 :=
  ⟨_, _, _, _, _, fd, ["m", "some"], ["m", "some"], F, ⟨rfl, rfl, rfl, by decide +kernel, rfl, by decide +kernel, by decide +kernel⟩, m32, rfl, rfl, fun s us hl => F.bindsA (fun _ _ _ _ _ _ us hl => match us, hl with | [_, _], _ => rfl) s us hl, fun e he hk => absurd hk ((show ∀ e ∈ mc.kws, e.1 ≠ 32 by decide) e he)⟩
theorem m33 : mSs { mc with N := ["told", "due"] } (defScope s33) T08.f33.body (defBody s33) = true := by decide +kernel
theorem r33 (F : FunD K "_law_like" "_law_like" (defArgs s33) (defBody s33) (defScope s33) [] [] (He.ga K "_law_like") fd) : DefR K (fun n => He.ga K (nm n)) mc 33 T08.f33 :=
  ⟨_, _, _, _, _, fd, ["told", "due"], ["told", "due"], F, ⟨rfl, rfl, rfl, by decide +kernel, rfl, by decide +kernel, by decide +kernel⟩, m33, rfl, rfl, fun s us hl => F.bindsA (fun _ _ _ _ _ _ us hl => match us, hl with | [_, _], _ => rfl) s us hl, fun e he hk => absurd hk ((show ∀ e ∈ mc.kws, e.1 ≠ 33 by decide) e he)⟩
theorem m34 : mSs { mc with N := ["places_so", "found", "place_so", "one"] } (defScope s34) T08.f34.body (defBody s34) = true := by decide +kernel
theorem r34 (F : FunD K "_law_subsets" "_law_subsets" (defArgs s34) (defBody s34) (defScope s34) [] [] (He.ga K "_law_subsets") fd) : DefR K (fun n => He.ga K (nm n)) mc 34 T08.f34 :=
  ⟨_, _, _, _, _, fd, ["places_so", "found", "place_so", "one"], ["places_so"], F, ⟨rfl, rfl, rfl, by decide +kernel, rfl, by decide +kernel, by decide +kernel⟩, m34, rfl, rfl, fun s us hl => F.bindsA (fun _ _ _ _ _ _ us hl => match us, hl with | [_], _ => rfl) s us hl, fun e he hk => absurd hk ((show ∀ e ∈ mc.kws, e.1 ≠ 34 by decide) e he)⟩
theorem m35 : mSs { mc with N := ["near_so", "far_so", "one"] } (defScope s35) T08.f35.body (defBody s35) = true := by decide +kernel
theorem r35 (F : FunD K "_law_lies" "_law_lies" (defArgs s35) (defBody s35) (defScope s35) [] [] (He.ga K "_law_lies") fd) : DefR K (fun n => He.ga K (nm n)) mc 35 T08.f35 :=
  ⟨_, _, _, _, _, fd, ["near_so", "far_so", "one"], ["near_so", "far_so"], F, ⟨rfl, rfl, rfl, by decide +kernel, rfl, by decide +kernel, by decide +kernel⟩, m35, rfl, rfl, fun s us hl => F.bindsA (fun _ _ _ _ _ _ us hl => match us, hl with | [_, _], _ => rfl) s us hl, fun e he hk => absurd hk ((show ∀ e ∈ mc.kws, e.1 ≠ 35 by decide) e he)⟩
theorem m36 : mSs { mc with N := ["lots_so", "found", "one", "two"] } (defScope s36) T08.f36.body (defBody s36) = true := by decide +kernel
theorem r36 (F : FunD K "_law_greatest" "_law_greatest" (defArgs s36) (defBody s36) (defScope s36) [] [] (He.ga K "_law_greatest") fd) : DefR K (fun n => He.ga K (nm n)) mc 36 T08.f36 :=
  ⟨_, _, _, _, _, fd, ["lots_so", "found", "one", "two"], ["lots_so"], F, ⟨rfl, rfl, rfl, by decide +kernel, rfl, by decide +kernel, by decide +kernel⟩, m36, rfl, rfl, fun s us hl => F.bindsA (fun _ _ _ _ _ _ us hl => match us, hl with | [_], _ => rfl) s us hl, fun e he hk => absurd hk ((show ∀ e ∈ mc.kws, e.1 ≠ 36 by decide) e he)⟩
theorem m37 : mSs { mc with N := ["complex_so", "found", "facet_so", "one"] } (defScope s37) T08.f37.body (defBody s37) = true := by decide +kernel
theorem r37 (F : FunD K "_law_faces" "_law_faces" (defArgs s37) (defBody s37) (defScope s37) [] [] (He.ga K "_law_faces") fd) : DefR K (fun n => He.ga K (nm n)) mc 37 T08.f37 :=
  ⟨_, _, _, _, _, fd, ["complex_so", "found", "facet_so", "one"], ["complex_so"], F, ⟨rfl, rfl, rfl, by decide +kernel, rfl, by decide +kernel, by decide +kernel⟩, m37, rfl, rfl, fun s us hl => F.bindsA (fun _ _ _ _ _ _ us hl => match us, hl with | [_], _ => rfl) s us hl, fun e he hk => absurd hk ((show ∀ e ∈ mc.kws, e.1 ≠ 37 by decide) e he)⟩
theorem m38 : mSs { mc with N := ["m", "most_so", "width", "lots_so", "again", "k"] } (defScope s38) T08.f38.body (defBody s38) = true := by decide +kernel
theorem r38 (F : FunD K "_law_some_complex" "_law_some_complex" (defArgs s38) (defBody s38) (defScope s38) [] [] (He.ga K "_law_some_complex") fd) : DefR K (fun n => He.ga K (nm n)) mc 38 T08.f38 :=
  ⟨_, _, _, _, _, fd, ["m", "most_so", "width", "lots_so", "again", "k"], ["m", "most_so"], F, ⟨rfl, rfl, rfl, by decide +kernel, rfl, by decide +kernel, by decide +kernel⟩, m38, rfl, rfl, fun s us hl => F.bindsA (fun _ _ _ _ _ _ us hl => match us, hl with | [_, _], _ => rfl) s us hl, fun e he hk => absurd hk ((show ∀ e ∈ mc.kws, e.1 ≠ 38 by decide) e he)⟩
theorem m39 : mSs { mc with N := ["complex_so", "found", "one", "often", "two"] } (defScope s39) T08.f39.body (defBody s39) = true := by decide +kernel
theorem r39 (F : FunD K "_law_one_less" "_law_one_less" (defArgs s39) (defBody s39) (defScope s39) [] [] (He.ga K "_law_one_less") fd) : DefR K (fun n => He.ga K (nm n)) mc 39 T08.f39 :=
  ⟨_, _, _, _, _, fd, ["complex_so", "found", "one", "often", "two"], ["complex_so"], F, ⟨rfl, rfl, rfl, by decide +kernel, rfl, by decide +kernel, by decide +kernel⟩, m39, rfl, rfl, fun s us hl => F.bindsA (fun _ _ _ _ _ _ us hl => match us, hl with | [_], _ => rfl) s us hl, fun e he hk => absurd hk ((show ∀ e ∈ mc.kws, e.1 ≠ 39 by decide) e he)⟩
theorem m40 : mSs { mc with N := ["complex_so", "faces_so", "left_so", "found", "here", "again", "k", "j"] } (defScope s40) T08.f40.body (defBody s40) = true := by decide +kernel
theorem r40 (F : FunD K "_law_parts" "_law_parts" (defArgs s40) (defBody s40) (defScope s40) [] [] (He.ga K "_law_parts") fd) : DefR K (fun n => He.ga K (nm n)) mc 40 T08.f40 :=
  ⟨_, _, _, _, _, fd, ["complex_so", "faces_so", "left_so", "found", "here", "again", "k", "j"], ["complex_so"], F, ⟨rfl, rfl, rfl, by decide +kernel, rfl, by decide +kernel, by decide +kernel⟩, m40, rfl, rfl, fun s us hl => F.bindsA (fun _ _ _ _ _ _ us hl => match us, hl with | [_], _ => rfl) s us hl, fun e he hk => absurd hk ((show ∀ e ∈ mc.kws, e.1 ≠ 40 by decide) e he)⟩
theorem m41 : mSs { mc with N := ["complex_so", "faces_so", "found", "one", "two"] } (defScope s41) T08.f41.body (defBody s41) = true := by decide +kernel
theorem r41 (F : FunD K "_law_misses" "_law_misses" (defArgs s41) (defBody s41) (defScope s41) [] [] (He.ga K "_law_misses") fd) : DefR K (fun n => He.ga K (nm n)) mc 41 T08.f41 :=
  ⟨_, _, _, _, _, fd, ["complex_so", "faces_so", "found", "one", "two"], ["complex_so"], F, ⟨rfl, rfl, rfl, by decide +kernel, rfl, by decide +kernel, by decide +kernel⟩, m41, rfl, rfl, fun s us hl => F.bindsA (fun _ _ _ _ _ _ us hl => match us, hl with | [_], _ => rfl) s us hl, fun e he hk => absurd hk ((show ∀ e ∈ mc.kws, e.1 ≠ 41 by decide) e he)⟩
theorem m42 : mSs { mc with N := (["complex_so", "width", "tips_so", "misses_so", "told", "faces_so", "one", "k"] : List Str) ++ (["rest", "two"] : List Str) } (defScope s42) T08.f42.body (defBody s42) = true := by decide +kernel
theorem r42 (F : FunD K "_law_right" "_law_right" (defArgs s42) (defBody s42) (defScope s42) [] [] (He.ga K "_law_right") fd) : DefR K (fun n => He.ga K (nm n)) mc 42 T08.f42 :=
  ⟨_, _, _, _, _, fd, (["complex_so", "width", "tips_so", "misses_so", "told", "faces_so", "one", "k"] : List Str) ++ (["rest", "two"] : List Str), ["complex_so"], F, ⟨rfl, rfl, rfl, by decide +kernel, rfl, by decide +kernel, by decide +kernel⟩, m42, rfl, rfl, fun s us hl => F.bindsA (fun _ _ _ _ _ _ us hl => match us, hl with | [_], _ => rfl) s us hl, fun e he hk => absurd hk ((show ∀ e ∈ mc.kws, e.1 ≠ 42 by decide) e he)⟩
theorem m43 : mSs { mc with N := (["script", "turn", "told", "due", "sided_so", "m", "some", "four"] : List Str) ++ (["six", "complex_so", "other_so", "one", "call"] : List Str) } (defScope s43) T08.f43.body (defBody s43) = true := by decide +kernel
theorem r43 (F : FunD K "law" "law" (defArgs s43) (defBody s43) (defScope s43) [] [] (He.ga K "law") fd) : DefR K (fun n => He.ga K (nm n)) mc 43 T08.f43 :=
  ⟨_, _, _, _, _, fd, (["script", "turn", "told", "due", "sided_so", "m", "some", "four"] : List Str) ++ (["six", "complex_so", "other_so", "one", "call"] : List Str), ["script"], F, ⟨rfl, rfl, rfl, by decide +kernel, rfl, by decide +kernel, by decide +kernel⟩, m43, rfl, rfl, fun s us hl => F.bindsA (fun _ _ _ _ _ _ us hl => match us, hl with | [_], _ => rfl) s us hl, fun e he hk => absurd hk ((show ∀ e ∈ mc.kws, e.1 ≠ 43 by decide) e he)⟩
end
def dfn (x : Str) (s : Stmt) : He.DefD := ⟨(x, none), x, x, defArgs s, defBody s, defScope s, [], []⟩
def fn : List He.DefD := ([dfn "is_integer" s0, dfn "is_from" s1, dfn "is_lot" s2, dfn "need_lot" s3, dfn "lies_in" s4, dfn "facets_fault" s5, dfn "complex_fault" s6, dfn "need_complex" s7] : List He.DefD) ++ ([dfn "need_complexes" s8, dfn "greatest_in" s9, dfn "complex_in" s10, dfn "lots_within" s11, dfn "faces_in" s12, dfn "is_face_in" s13, dfn "places_in" s14, dfn "less_lot" s15] : List He.DefD) ++ ([dfn "without_in" s16, dfn "without" s17, dfn "walls_of" s18, dfn "spread_in" s19, dfn "parts_of" s20, dfn "tips_of" s21, dfn "misses_in" s22, dfn "misses_of" s23] : List He.DefD) ++ ([dfn "behind_in" s24, dfn "let_many" s25, dfn "joined_in" s26, dfn "beside_in" s27, dfn "beside" s28, dfn "coned" s29, dfn "_law_begun" s30, dfn "_law_draw" s31] : List He.DefD) ++ ([dfn "_law_of" s32, dfn "_law_like" s33, dfn "_law_subsets" s34, dfn "_law_lies" s35, dfn "_law_greatest" s36, dfn "_law_faces" s37, dfn "_law_some_complex" s38, dfn "_law_one_less" s39] : List He.DefD) ++ ([dfn "_law_parts" s40, dfn "_law_misses" s41, dfn "_law_right" s42, dfn "law" s43] : List He.DefD)
def chk : PySem.W.Frag → Bool := chkK (mc.csts.map fun q => (q.1, (T08.P.consts[q.2]?).getD .non)) mc.bts (mc.fns.map (·.1))
theorem hfn : ∀ q ∈ mc.fns, nm q.2 = q.1 ∧ (T08.P.fns[q.2]?).isSome = true := by decide +kernel
theorem hc : ∀ q ∈ mc.csts, (T08.P.consts[q.2]?).isSome = true ∧ Mini.ownable ((T08.P.consts[q.2]?).getD .non) = false := by decide +kernel
theorem defs {K : PySem.W.Frag} (h : ∀ d ∈ fn, ∃ fd, FunD K d.name d.qual d.params d.body d.scope (d.dvs K) (d.kws K) (He.fAd K d.at_) fd) : ∀ n F, T08.P.fns[n]? = some F → DefR K (fun n => He.ga K (nm n)) mc n F := by
  intro n F hF
  have hn : n < 44 := (List.getElem?_eq_some_iff.mp hF).1
  match n, hn, hF with
  | 0, _, hF =>
    obtain ⟨fd, F⟩ := h (dfn "is_integer" s0) (List.mem_of_getElem? (i := 0) rfl)
    cases (show some T08.f0 = some _ from hF); exact r0 F
  | 1, _, hF =>
    obtain ⟨fd, F⟩ := h (dfn "is_from" s1) (List.mem_of_getElem? (i := 1) rfl)
    cases (show some T08.f1 = some _ from hF); exact r1 F
  | 2, _, hF =>
    obtain ⟨fd, F⟩ := h (dfn "is_lot" s2) (List.mem_of_getElem? (i := 2) rfl)
    cases (show some T08.f2 = some _ from hF); exact r2 F
  | 3, _, hF =>
    obtain ⟨fd, F⟩ := h (dfn "need_lot" s3) (List.mem_of_getElem? (i := 3) rfl)
    cases (show some T08.f3 = some _ from hF); exact r3 F
  | 4, _, hF =>
    obtain ⟨fd, F⟩ := h (dfn "lies_in" s4) (List.mem_of_getElem? (i := 4) rfl)
    cases (show some T08.f4 = some _ from hF); exact r4 F
  | 5, _, hF =>
    obtain ⟨fd, F⟩ := h (dfn "facets_fault" s5) (List.mem_of_getElem? (i := 5) rfl)
    cases (show some T08.f5 = some _ from hF); exact r5 F
  | 6, _, hF =>
    obtain ⟨fd, F⟩ := h (dfn "complex_fault" s6) (List.mem_of_getElem? (i := 6) rfl)
    cases (show some T08.f6 = some _ from hF); exact r6 F
  | 7, _, hF =>
    obtain ⟨fd, F⟩ := h (dfn "need_complex" s7) (List.mem_of_getElem? (i := 7) rfl)
    cases (show some T08.f7 = some _ from hF); exact r7 F
  | 8, _, hF =>
    obtain ⟨fd, F⟩ := h (dfn "need_complexes" s8) (List.mem_of_getElem? (i := 8) rfl)
    cases (show some T08.f8 = some _ from hF); exact r8 F
  | 9, _, hF =>
    obtain ⟨fd, F⟩ := h (dfn "greatest_in" s9) (List.mem_of_getElem? (i := 9) rfl)
    cases (show some T08.f9 = some _ from hF); exact r9 F
  | 10, _, hF =>
    obtain ⟨fd, F⟩ := h (dfn "complex_in" s10) (List.mem_of_getElem? (i := 10) rfl)
    cases (show some T08.f10 = some _ from hF); exact r10 F
  | 11, _, hF =>
    obtain ⟨fd, F⟩ := h (dfn "lots_within" s11) (List.mem_of_getElem? (i := 11) rfl)
    cases (show some T08.f11 = some _ from hF); exact r11 F
  | 12, _, hF =>
    obtain ⟨fd, F⟩ := h (dfn "faces_in" s12) (List.mem_of_getElem? (i := 12) rfl)
    cases (show some T08.f12 = some _ from hF); exact r12 F
  | 13, _, hF =>
    obtain ⟨fd, F⟩ := h (dfn "is_face_in" s13) (List.mem_of_getElem? (i := 13) rfl)
    cases (show some T08.f13 = some _ from hF); exact r13 F
  | 14, _, hF =>
    obtain ⟨fd, F⟩ := h (dfn "places_in" s14) (List.mem_of_getElem? (i := 14) rfl)
    cases (show some T08.f14 = some _ from hF); exact r14 F
  | 15, _, hF =>
    obtain ⟨fd, F⟩ := h (dfn "less_lot" s15) (List.mem_of_getElem? (i := 15) rfl)
    cases (show some T08.f15 = some _ from hF); exact r15 F
  | 16, _, hF =>
    obtain ⟨fd, F⟩ := h (dfn "without_in" s16) (List.mem_of_getElem? (i := 16) rfl)
    cases (show some T08.f16 = some _ from hF); exact r16 F
  | 17, _, hF =>
    obtain ⟨fd, F⟩ := h (dfn "without" s17) (List.mem_of_getElem? (i := 17) rfl)
    cases (show some T08.f17 = some _ from hF); exact r17 F
  | 18, _, hF =>
    obtain ⟨fd, F⟩ := h (dfn "walls_of" s18) (List.mem_of_getElem? (i := 18) rfl)
    cases (show some T08.f18 = some _ from hF); exact r18 F
  | 19, _, hF =>
    obtain ⟨fd, F⟩ := h (dfn "spread_in" s19) (List.mem_of_getElem? (i := 19) rfl)
    cases (show some T08.f19 = some _ from hF); exact r19 F
  | 20, _, hF =>
    obtain ⟨fd, F⟩ := h (dfn "parts_of" s20) (List.mem_of_getElem? (i := 20) rfl)
    cases (show some T08.f20 = some _ from hF); exact r20 F
  | 21, _, hF =>
    obtain ⟨fd, F⟩ := h (dfn "tips_of" s21) (List.mem_of_getElem? (i := 21) rfl)
    cases (show some T08.f21 = some _ from hF); exact r21 F
  | 22, _, hF =>
    obtain ⟨fd, F⟩ := h (dfn "misses_in" s22) (List.mem_of_getElem? (i := 22) rfl)
    cases (show some T08.f22 = some _ from hF); exact r22 F
  | 23, _, hF =>
    obtain ⟨fd, F⟩ := h (dfn "misses_of" s23) (List.mem_of_getElem? (i := 23) rfl)
    cases (show some T08.f23 = some _ from hF); exact r23 F
  | 24, _, hF =>
    obtain ⟨fd, F⟩ := h (dfn "behind_in" s24) (List.mem_of_getElem? (i := 24) rfl)
    cases (show some T08.f24 = some _ from hF); exact r24 F
  | 25, _, hF =>
    obtain ⟨fd, F⟩ := h (dfn "let_many" s25) (List.mem_of_getElem? (i := 25) rfl)
    cases (show some T08.f25 = some _ from hF); exact r25 F
  | 26, _, hF =>
    obtain ⟨fd, F⟩ := h (dfn "joined_in" s26) (List.mem_of_getElem? (i := 26) rfl)
    cases (show some T08.f26 = some _ from hF); exact r26 F
  | 27, _, hF =>
    obtain ⟨fd, F⟩ := h (dfn "beside_in" s27) (List.mem_of_getElem? (i := 27) rfl)
    cases (show some T08.f27 = some _ from hF); exact r27 F
  | 28, _, hF =>
    obtain ⟨fd, F⟩ := h (dfn "beside" s28) (List.mem_of_getElem? (i := 28) rfl)
    cases (show some T08.f28 = some _ from hF); exact r28 F
  | 29, _, hF =>
    obtain ⟨fd, F⟩ := h (dfn "coned" s29) (List.mem_of_getElem? (i := 29) rfl)
    cases (show some T08.f29 = some _ from hF); exact r29 F
  | 30, _, hF =>
    obtain ⟨fd, F⟩ := h (dfn "_law_begun" s30) (List.mem_of_getElem? (i := 30) rfl)
    cases (show some T08.f30 = some _ from hF); exact r30 F
  | 31, _, hF =>
    obtain ⟨fd, F⟩ := h (dfn "_law_draw" s31) (List.mem_of_getElem? (i := 31) rfl)
    cases (show some T08.f31 = some _ from hF); exact r31 F
  | 32, _, hF =>
    obtain ⟨fd, F⟩ := h (dfn "_law_of" s32) (List.mem_of_getElem? (i := 32) rfl)
    cases (show some T08.f32 = some _ from hF); exact r32 F
  | 33, _, hF =>
    obtain ⟨fd, F⟩ := h (dfn "_law_like" s33) (List.mem_of_getElem? (i := 33) rfl)
    cases (show some T08.f33 = some _ from hF); exact r33 F
  | 34, _, hF =>
    obtain ⟨fd, F⟩ := h (dfn "_law_subsets" s34) (List.mem_of_getElem? (i := 34) rfl)
    cases (show some T08.f34 = some _ from hF); exact r34 F
  | 35, _, hF =>
    obtain ⟨fd, F⟩ := h (dfn "_law_lies" s35) (List.mem_of_getElem? (i := 35) rfl)
    cases (show some T08.f35 = some _ from hF); exact r35 F
  | 36, _, hF =>
    obtain ⟨fd, F⟩ := h (dfn "_law_greatest" s36) (List.mem_of_getElem? (i := 36) rfl)
    cases (show some T08.f36 = some _ from hF); exact r36 F
  | 37, _, hF =>
    obtain ⟨fd, F⟩ := h (dfn "_law_faces" s37) (List.mem_of_getElem? (i := 37) rfl)
    cases (show some T08.f37 = some _ from hF); exact r37 F
  | 38, _, hF =>
    obtain ⟨fd, F⟩ := h (dfn "_law_some_complex" s38) (List.mem_of_getElem? (i := 38) rfl)
    cases (show some T08.f38 = some _ from hF); exact r38 F
  | 39, _, hF =>
    obtain ⟨fd, F⟩ := h (dfn "_law_one_less" s39) (List.mem_of_getElem? (i := 39) rfl)
    cases (show some T08.f39 = some _ from hF); exact r39 F
  | 40, _, hF =>
    obtain ⟨fd, F⟩ := h (dfn "_law_parts" s40) (List.mem_of_getElem? (i := 40) rfl)
    cases (show some T08.f40 = some _ from hF); exact r40 F
  | 41, _, hF =>
    obtain ⟨fd, F⟩ := h (dfn "_law_misses" s41) (List.mem_of_getElem? (i := 41) rfl)
    cases (show some T08.f41 = some _ from hF); exact r41 F
  | 42, _, hF =>
    obtain ⟨fd, F⟩ := h (dfn "_law_right" s42) (List.mem_of_getElem? (i := 42) rfl)
    cases (show some T08.f42 = some _ from hF); exact r42 F
  | 43, _, hF =>
    obtain ⟨fd, F⟩ := h (dfn "law" s43) (List.mem_of_getElem? (i := 43) rfl)
    cases (show some T08.f43 = some _ from hF); exact r43 F
theorem facts {K : PySem.W.Frag} {h : Heap} {mg : Str → Option Value} (X : K.In h) (G : h.Ns mainGlobals mg) (e : obsM chk fn K = valM fn) : GloR K (fun n => He.ga K (nm n)) T08.P mg mc ∧ ∀ a o, K.lookup a = some o → o.cls ≠ .type "list" := by
  obtain ⟨e1, e2⟩ := says_chk e
  have c := chkK_ok e1
  exact ⟨glo_of X G c hfn hc (defs e2), c.noL⟩
abbrev R : PySem.W.OpenRow := PySem.W.OpenLaw.row PySem.Challenge.rw_stairfaces_k08_walls_parts_tips
abbrev hk : PySem.W.Hook := hookM 4 chk fn
def ob (s : PySem.W.SharedT) : AlM := obsMG 4 chk fn (HandSHeadRun.getT s)
theorem ob_eq (s : PySem.W.SharedT) : ob s = hk.obs s.abs := obsMG_eq (HandSHeadRun.getT_eq s)
def loose0 : List PySem.Str := (["FaceError", "BadFace", "BadComplex", "TooGreat", "is_integer", "is_from", "MOST_PLACES", "is_lot"] : List Str) ++ (["need_lot", "lies_in", "facets_fault", "complex_fault", "need_complex", "need_complexes", "greatest_in", "complex_in"] : List Str) ++ (["lots_within", "faces_in", "is_face_in", "places_in", "less_lot", "without_in", "without", "walls_of"] : List Str) ++ (["spread_in", "parts_of", "tips_of", "misses_in", "misses_of", "POINT"] : List Str)
def loose1 : List PySem.Str := (["behind_in", "let_many", "joined_in", "beside_in", "beside", "coned", "_law_begun", "_law_draw"] : List Str) ++ (["_law_of", "_law_like", "_law_subsets", "_law_lies", "_law_greatest", "_law_faces", "_law_some_complex", "_law_one_less"] : List Str) ++ (["_law_parts", "_law_misses", "_law_right"] : List Str)
def loose : List PySem.Str := loose0 ++ loose1
theorem run (w : World) : HandSHeadRun.RunEq R (PySem.W.view R.prog [55]) hk ob 4000 loose w := by
  intro os
  kernel_rfl
theorem holds (plain : ∀ xs : List Int, xs.length ≤ 63 → ∃ st, Mini.callP T08.P 12 43 [.lst (xs.map .int)] [] = some (.bl true, st)) : PySem.Challenge.rw_stairfaces_k08_walls_parts_tips.Holds := by
  open PySem.W PySem.Calls in
  w_on; o_law
  refine HandSHeadRun.head_any (r := R) (q := PySem.W.view R.prog [55]) (H := hk) (ob := ob) (M := 4000) (loose := loose) (d := HandSHeadRun.topDef R.prog 55) (kwd := []) ob_eq
    (by kernel_rfl) (fun s => by kernel_rfl) run (by kernel_rfl) (by kernel_rfl) (by kernel_rfl) (by rfl) (by first | assumption | decide +kernel) (by decide +kernel) ⟨rfl, rfl, rfl, rfl, rfl, by decide +kernel⟩ ?hw ?hc
  case hw => w_witness2
  case hc =>
    refine walk_mini (l := PySem.Challenge.rw_stairfaces_k08_walls_parts_tips) (m := 63) (n := 43) (dd := 12) (P := T08.P) (c := mc) (F := T08.f43) rfl (by decide) (by kernel_rfl) ⟨rfl, by decide, by decide⟩ rfl rfl plain ?_
    intro w mg fa h Y G hmg0
    obtain ⟨K, KX, e⟩ := Y
    obtain ⟨g1, g2⟩ := facts (mg := mg) KX G e
    refine ⟨K, fun n => He.ga K (nm n), KX, g1, ?_, g2⟩
    have hmg : mg ("law" : PySem.Str) = some (.ref fa) := by
      have e : (HandSHeadRun.topDef R.prog 55).name = ("law" : PySem.Str) := by kernel_rfl
      rw [← e]; exact hmg0
    have h2 := (g1.fnm ("law", 43) (List.mem_of_getElem? (i := 43) rfl)).1
    rw [hmg] at h2
    cases h2; rfl
end E08
end

section
set_option autoImplicit false
set_option linter.all false
set_option maxRecDepth 100000
/-! Pl1: what plain proofs about the evaluator lean on: equations, loops, lists. -/
namespace Pl
open Mini
def zipX (x y : D) (s : St) : Option (D × St) := match x, y with
  | .tup xs, .tup ys => some (.lst (List.zipWith (fun x y => .tup [x, y]) xs ys), s)
  | _, _ => none
def enmX (x : D) (s : St) : Option (D × St) := match x with
  | .tup xs | .lst xs | .wt xs => some (.lst (List.zipWith (fun (k : Nat) (x : D) => D.tup [.int k, x]) (List.range xs.length) xs), s)
  | _ => none
def rngX (x : D) (s : St) : Option (D × St) := match x with
  | .int n => if -1000000 ≤ n ∧ n ≤ 1000000 then some (.lst ((List.range n.toNat).map fun (k : Nat) => D.int k), s) else none
  | _ => none
def rngY (x y : D) (s : St) : Option (D × St) := match x, y with
  | .int m, .int n => if (-1000000 ≤ m ∧ m ≤ 1000000) ∧ -1000000 ≤ n ∧ n ≤ 1000000 then some (.lst ((List.range (n - m).toNat).map fun (k : Nat) => D.int (m + k)), s) else none
  | _, _ => none
def getX (x y z : D) (s : St) : Option (D × St) := match x with
  | .dct kvs => if isKeyTup y && kvs.all (fun p => isKeyTup p.1) then some ((look kvs y).getD z, s) else none
  | _ => none
def negX (x : D) (s : St) : Option (D × St) := match x with | .int i => some (.int (-i), s) | _ => none
def putX (env : Env) (i : Nat) (x y : D) (s : St) : Option (Fl × Env × St) := match env[i]? with
  | some (.ow (.dct kvs)) => if isKeyTup y && kvs.all (fun p => isKeyTup p.1) && decide (kvs.length < LIM) then some (.nx, env.set i (.ow (.dct (put kvs y x))), s) else none
  | _ => none
def appX (env : Env) (i : Nat) (x : D) (s : St) : Option (Fl × Env × St) := match env[i]? with
  | some (.ow (.lst xs)) => if xs.length < LIM then some (.nx, env.set i (.ow (.lst (xs ++ [x]))), s) else none
  | _ => none
def stoX (env : Env) (r y x : D) (s : St) : Option (Fl × Env × St) := match r, y with
  | .ref n, .str k => (s[n]?).bind fun o => if o.length < LIM then some (.nx, env, s.set n (putS o k x)) else none
  | _, _ => none
def augX (o : Bin) (env : Env) (i : Nat) (x y : D) (s : St) : Option (Fl × Env × St) := match x, y with
  | .int _, .int _ => (binD o x y).bind fun z => (setV env i (.sh z)).map fun env' => (.nx, env', s)
  | _, _ => none
def fzX (env : Env) (i : Nat) (st : St) : Option (Fl × Env × St) := match env[i]? with
  | some (.ow d) => some (.nx, env.set i (.sh d), st)
  | _ => none
def callX (call : CallF) (g : D) (xs : List D) (s : St) : Option (D × St) := match g with | .fn n => call n xs s | _ => none
/-- what follows a statement -/
def thenX (rest : Env → St → Option (Fl × Env × St)) (x : Fl × Env × St) : Option (Fl × Env × St) := match x with
  | (.nx, env, st) => rest env st
  | (f, env, st) => some (f, env, st)
@[simp] theorem then_nx (rest : Env → St → Option (Fl × Env × St)) (env : Env) (st : St) : thenX rest (.nx, env, st) = rest env st := rfl
@[simp] theorem then_rt (rest : Env → St → Option (Fl × Env × St)) (d : D) (env : Env) (st : St) : thenX rest (.rt d, env, st) = some (.rt d, env, st) := rfl
@[simp] theorem neg_int (i : Int) (s : St) : negX (.int i) s = some (.int (-i), s) := rfl
@[simp] theorem callX_fn (call : CallF) (n : Nat) (xs : List D) (s : St) : callX call (.fn n) xs s = call n xs s := rfl
section
variable {C : Cfg} {bw : Bool} {env : Env} {st : St}
@[simp] theorem e_cst (d : D) : evE C bw (.cst d) env st = some (d, st) := by simp [evE]
@[simp] theorem e_varT (i : Nat) : evE C true (.var i) env st = (slotB env[i]?).map (·, st) := by simp [evE]
@[simp] theorem e_varF (i : Nat) : evE C false (.var i) env st = (slotV env[i]?).map (·, st) := by simp [evE]
@[simp] theorem e_glo (n : Nat) : evE C bw (.glo n) env st = (C.consts[n]?).map (·, st) := by simp [evE]
@[simp] theorem e_fnv (n : Nat) : evE C bw (.fnv n) env st = some (.fn n, st) := by simp [evE]
@[simp] theorem e_bin (o : Bin) (a b : T) : evE C bw (.bin o a b) env st = (evE C true a env st).bind fun (x, s1) => (evE C true b env s1).bind fun (y, s2) => (binD o x y).map (·, s2) := by simp [evE]
@[simp] theorem e_neg (a : T) : evE C bw (.neg a) env st = (evE C true a env st).bind fun (x, s1) => negX x s1 := by rw [evE]; rfl
@[simp] theorem e_nt (a : T) : evE C bw (.nt a) env st = (evE C true a env st).bind fun (x, s1) => (tru x).map fun b => (.bl (!b), s1) := by simp [evE]
@[simp] theorem e_and (a b : T) : evE C bw (.and a b) env st = (evE C true a env st).bind fun (x, s1) => (tru x).bind fun c => if c then evE C bw b env s1 else some (.bl false, s1) := by simp [evE]
@[simp] theorem e_or (a b : T) : evE C bw (.or a b) env st = (evE C true a env st).bind fun (x, s1) => (tru x).bind fun c => if c then some (.bl true, s1) else evE C bw b env s1 := by simp [evE]
@[simp] theorem e_ife (c a b : T) : evE C bw (.ife c a b) env st = (evE C true c env st).bind fun (x, s1) => (tru x).bind fun c => if c then evE C bw a env s1 else evE C bw b env s1 := by simp [evE]
@[simp] theorem e_cmp (o : Cm) (a b : T) : evE C bw (.cmp o a b) env st = (evE C true a env st).bind fun (x, s1) => (evE C true b env s1).bind fun (y, s2) => (cmpD o x y).map fun c => (.bl c, s2) := by simp [evE]
@[simp] theorem e_chn (o p : Cm) (a b c : T) : evE C bw (.chn o p a b c) env st = (evE C true a env st).bind fun (x, s1) => (evE C true b env s1).bind fun (y, s2) => (cmpD o x y).bind fun k =>
      if k then (evE C true c env s2).bind fun (z, s3) => (cmpD p y z).map fun c => (.bl c, s3) else some (.bl false, s2) := by simp [evE]
@[simp] theorem e_call (f : Nat) (as : T) : evE C bw (.call f as) env st = (evEs C false as env st).bind fun (xs, s1) => C.call f xs s1 := by simp [evE]
@[simp] theorem e_callK (f : Nat) (as ks : T) (ns : List (List Nat)) (perm : List Nat) : evE C bw (.callK f as ks ns perm) env st = (evEs C false as env st).bind fun (xs, s1) => (evEs C false ks env s1).bind fun (ys, s2) => (permD (xs ++ ys) perm).bind fun zs => C.call f zs s2 := by simp [evE]
@[simp] theorem e_callV (f as : T) : evE C bw (.callV f as) env st = (evE C true f env st).bind fun (g, s1) => (evEs C false as env s1).bind fun (xs, s2) => callX C.call g xs s2 := by rw [evE]; rfl
@[simp] theorem e_bi (o : Bi) (as : T) : evE C bw (.bi o as) env st = (evEs C true as env st).bind fun (xs, s1) => (biD o xs).map (·, s1) := by simp [evE]
@[simp] theorem e_srtS (a : T) : evE C bw (.srtS a) env st = (evE C true a env st).bind fun (v, s1) => (biD .sortedSet [v]).map (·, s1) := by simp [evE]
@[simp] theorem e_srtL (a : T) : evE C bw (.srtL a) env st = (evE C true a env st).bind fun (v, s1) => (biD .sortedLenRev [v]).map (·, s1) := by simp [evE]
@[simp] theorem e_ix (a i : T) : evE C bw (.ix a i) env st = (evE C true a env st).bind fun (x, s1) => (evE C true i env s1).bind fun (y, s2) => (ixD s2 x y).map (·, s2) := by simp [evE]
@[simp] theorem e_slc (a lo hi : T) : evE C bw (.slc a lo hi) env st = (evE C true a env st).bind fun (x, s1) => ((evE C true lo env s1).bind fun (y, s) => (bndD lo y).map (·, s)).bind fun (y, s2) => ((evE C true hi env s2).bind fun (z, s) => (bndD hi z).map (·, s)).bind fun (z, s3) => (slcD x y z).map (·, s3) := by simp only [evE]
@[simp] theorem e_tup (as : T) : evE C bw (.tup as) env st = (evEs C false as env st).bind fun (xs, s1) => if xs.length ≤ LIM then some (.tup xs, s1) else none := by simp only [evE]
@[simp] theorem e_lst (as : T) : evE C bw (.lst as) env st = (evEs C false as env st).bind fun (xs, s1) => if xs.length ≤ LIM then some (.lst xs, s1) else none := by simp only [evE]
@[simp] theorem e_lc (own : List Nat) (e tg it cs : T) : evE C bw (.lc own e tg it cs) env st = (evE C true it env st).bind fun (x, s1) => (seqD x).bind fun xs =>
      guardLen (lcGo (fun d => asgT tg d (wipeE env own)) (evC C cs) (fun env st => one (evE C false e env st)) xs s1) := by simp only [evE]
@[simp] theorem e_lc2 (own vs1 : List Nat) (e tg it cs tg1 it1 cs1 : T) : evE C bw (.lc2 own vs1 e tg it cs tg1 it1 cs1) env st = (evE C true it env st).bind fun (x, s1) => (seqD x).bind fun xs =>
      guardLen (lcGo (fun d => asgT tg d (wipeE env own)) (evC C cs)
        (fun env st => (evE C false it1 env st).bind fun (x, s1) => (seqD x).bind fun xs =>
          lcGo (fun d => asgT tg1 d (wipeE env vs1)) (evC C cs1) (fun env st => one (evE C false e env st)) xs s1) xs s1) := by simp only [evE]
@[simp] theorem e_dc (own : List Nat) (k v tg it cs : T) : evE C bw (.dc own k v tg it cs) env st = (evE C true it env st).bind fun (x, s1) => (seqD x).bind fun xs =>
      (dcGo (fun d => asgT tg d (wipeE env own)) (evC C cs) (evE C false k) (evE C false v) xs s1 []).bind fun (kvs, s2) => if kvs.length < LIM then some (.dct kvs, s2) else none := by simp only [evE]
@[simp] theorem e_dsp0 : evE C bw (.dsp .nil) env st = some (.dct [], st) := by simp only [evE]
@[simp] theorem e_dsp (a r : T) : evE C bw (.dsp (.cons a r)) env st = (evKs C (.cons a r) env st).map fun (kvs, s1) => (.ref s1.length, s1 ++ [kvs]) := by simp only [evE]
@[simp] theorem e_get2 (o k d : T) : evE C bw (.get2 o k d) env st = (evE C true o env st).bind fun (x, s1) => (evE C true k env s1).bind fun (y, s2) => (evE C false d env s2).bind fun (z, s3) => getX x y z s3 := by rw [evE]; rfl
@[simp] theorem e_rng1 (a : T) : evE C bw (.rng1 a) env st = (evE C true a env st).bind fun (x, s1) => rngX x s1 := by rw [evE]; rfl
@[simp] theorem e_rng2 (a b : T) : evE C bw (.rng2 a b) env st = (evE C true a env st).bind fun (x, s1) => (evE C true b env s1).bind fun (y, s2) => rngY x y s2 := by rw [evE]; rfl
@[simp] theorem e_enm (a : T) : evE C bw (.enm a) env st = (evE C bw a env st).bind fun (x, s1) => enmX x s1 := by rw [evE]; rfl
@[simp] theorem e_zip (a b : T) : evE C bw (.zip a b) env st = (evE C bw a env st).bind fun (x, s1) => (evE C bw b env s1).bind fun (y, s2) => zipX x y s2 := by rw [evE]; rfl
@[simp] theorem e_nil : evEs C bw .nil env st = some ([], st) := by simp only [evEs]
@[simp] theorem e_cons (a r : T) : evEs C bw (.cons a r) env st = (evE C bw a env st).bind fun (x, s1) => (evEs C bw r env s1).bind fun (xs, s2) => some (x :: xs, s2) := by simp only [evEs]
@[simp] theorem c_nil : evC C .nil env st = some (true, st) := by simp only [evC]
@[simp] theorem c_cons (a r : T) : evC C (.cons a r) env st = (evE C true a env st).bind fun (x, s1) => (tru x).bind fun b => if b then evC C r env s1 else some (false, s1) := by simp only [evC]
@[simp] theorem k_nil : evKs C .nil env st = some ([], st) := by simp only [evKs]
@[simp] theorem k_cons (k : List Nat) (v r : T) : evKs C (.cons (.pair (.cst (.str k)) v) r) env st = (evE C false v env st).bind fun (x, s1) => (evKs C r env s1).bind fun (kvs, s2) => some ((k, x) :: kvs, s2) := by simp only [evKs]
-- statements
@[simp] theorem s_asg (tg e : T) : evS C (.asg tg e) env st = (evE C false e env st).bind fun (x, s1) => (asgT tg x env).map fun env' => (.nx, env', s1) := by simp only [evS]
@[simp] theorem s_asgO (i : Nat) (e : T) : evS C (.asgO i e) env st = (evE C false e env st).bind fun (x, s1) => if ownable x then (setV env i (.ow x)).map fun env' => (.nx, env', s1) else none := by simp only [evS]
@[simp] theorem s_asgM (m k e : T) : evS C (.asgM m k e) env st = (evE C false e env st).bind fun (x, s1) => (evE C false m env s1).bind fun (r, s2) => (evE C true k env s2).bind fun (y, s3) => stoX env r y x s3 := by rw [evS]; rfl
@[simp] theorem s_aug (i : Nat) (o : Bin) (e : T) : evS C (.aug i o e) env st = (slotV env[i]?).bind fun x => (evE C true e env st).bind fun (y, s1) => augX o env i x y s1 := by rw [evS]; rfl
@[simp] theorem s_app (i : Nat) (e : T) : evS C (.app i e) env st = (evE C false e env st).bind fun (x, s1) => appX env i x s1 := by rw [evS]; rfl
@[simp] theorem s_setI (i : Nat) (k e : T) : evS C (.setI i k e) env st = (evE C false e env st).bind fun (x, s1) => (evE C false k env s1).bind fun (y, s2) => putX env i x y s2 := by rw [evS]; rfl
@[simp] theorem s_par (tgs is : T) : evS C (.par tgs is) env st = (evP C is env st).bind fun (xs, s1) => (setPs tgs xs env).map fun env' => (.nx, env', s1) := by simp only [evS]
@[simp] theorem p_nil : evP C .nil env st = some ([], st) := by simp only [evP]
@[simp] theorem p_frs (e r : T) : evP C (.cons (.frs e) r) env st = (evE C false e env st).bind fun (x, s1) => if ownable x then (evP C r env s1).bind fun (xs, s2) => some (.ow x :: xs, s2) else none := by simp only [evP]
@[simp] theorem p_sh (a r : T) (h : ∀ e, a ≠ .frs e) : evP C (.cons a r) env st = (evE C false a env st).bind fun (x, s1) => (evP C r env s1).bind fun (xs, s2) => some (.sh x :: xs, s2) := by
  cases a <;> first | (exact absurd rfl (h _)) | (simp only [evP]; done) | (rw [evP]; done)
@[simp] theorem s_retv (i : Nat) : evS C (.ret (.var i)) env st = (slotB env[i]?).map fun x => (.rt x, env, st) := by simp only [evS]
@[simp] theorem s_ret (e : T) (h : ∀ i, e ≠ .var i) : evS C (.ret e) env st = (evE C false e env st).bind fun (x, s1) => some (.rt x, env, s1) := by
  cases e <;> first | (exact absurd rfl (h _)) | (simp only [evS]; done) | (rw [evS]; done)
@[simp] theorem s_exp (e : T) : evS C (.exp e) env st = (evE C true e env st).map fun (_, s1) => (.nx, env, s1) := by simp only [evS]
@[simp] theorem s_ifs (c a b : T) : evS C (.ifs c a b) env st = (evE C true c env st).bind fun (x, s1) => (tru x).bind fun t => if t then evSs C a env s1 else evSs C b env s1 := by simp only [evS]
@[simp] theorem s_for (tg it b : T) : evS C (.for_ tg it b) env st = (evE C false it env st).bind fun (x, s1) => (seqD x).bind fun xs => forGo (fun d env st => (asgT tg d env).bind fun env' => evSs C b env' st) xs env s1 := by simp only [evS]
@[simp] theorem s_whl (c b : T) : evS C (.whl c b) env st = whlGo (evE C true c) (evSs C b) BIG env st := by simp only [evS]
@[simp] theorem s_fz (i : Nat) : evS C (.fz i) env st = fzX env i st := by rw [evS]; rfl
@[simp] theorem ss_nil : evSs C .nil env st = some (.nx, env, st) := by simp only [evSs]
@[simp] theorem ss_cons (s r : T) : evSs C (.cons s r) env st = (evS C s env st).bind (thenX (evSs C r)) := by
  rw [evSs]
  congr 1
  funext x
  obtain ⟨f, e, t⟩ := x
  cases f <;> rfl
end
/-- a def's end -/
def fin (r : Option (Fl × Env × St)) : Option (D × St) := r.bind fun (f, _, st') => match f with
    | .rt d => some (d, st')
    | .nx => some (.non, st')
    | _ => none
@[simp] theorem fin_rt (d : D) (env : Env) (st : St) : fin (some (.rt d, env, st)) = some (d, st) := rfl
@[simp] theorem fin_nx (env : Env) (st : St) : fin (some (.nx, env, st)) = some (.non, st) := rfl
theorem call_eq {P : Prog} {d k : Nat} {F : Fn} {xs : List D} {st : St} (h : P.fns[k]? = some F) (hl : xs.length = F.np) : callP P (d + 1) k xs st = fin (evSs ⟨P.consts, callP P d⟩ F.body (startE F xs) st) := by
  unfold callP
  rw [h]
  show runFn P (callP P d) F xs st = _
  unfold runFn
  rw [if_pos hl]
  rfl
/-! ### loops -/
theorem lcGo_map {α : Type} (en : α → D) {asg : D → Option Env} {test : Env → St → Option (Bool × St)} {elt : Env → St → Option (List D × St)} (p : α → Bool) (f : α → D) {st : St} : ∀ (l : List α),
    (∀ x ∈ l, ∃ env, asg (en x) = some env ∧ test env st = some (p x, st) ∧ (p x = true → elt env st = some ([f x], st))) → lcGo asg test elt (l.map en) st = some ((l.filter p).map f, st)
  | [], _ => rfl
  | x :: l, h => by
    obtain ⟨env, h1, h2, h3⟩ := h x (List.mem_cons_self ..)
    have ih := lcGo_map en p f l fun y hy => h y (List.mem_cons_of_mem _ hy)
    simp only [List.map_cons, lcGo, h1, h2, Option.bind_some]
    cases hp : p x with
    | true => simp [h3 hp, ih, List.filter_cons, hp]
    | false => simp [ih, List.filter_cons, hp]
/-- each item -/
theorem lcGo_all {α : Type} (en : α → D) {asg : D → Option Env} {test : Env → St → Option (Bool × St)} {elt : Env → St → Option (List D × St)} (f : α → D) {st : St} : ∀ (l : List α),
    (∀ x ∈ l, ∃ env, asg (en x) = some env ∧ test env st = some (true, st) ∧ elt env st = some ([f x], st)) → lcGo asg test elt (l.map en) st = some (l.map f, st)
  | [], _ => rfl
  | x :: l, h => by
    obtain ⟨env, h1, h2, h3⟩ := h x (List.mem_cons_self ..)
    have ih := lcGo_all en f l fun y hy => h y (List.mem_cons_of_mem _ hy)
    simp [lcGo, h1, h2, h3, ih]
@[simp] theorem wipe_nil (env : Env) : wipeE env [] = env := rfl
@[simp] theorem wipe_cons (env : Env) (v : Nat) (vs : List Nat) : wipeE env (v :: vs) = (wipeE env vs).set v .un := rfl
/-- several things from each item -/
theorem lcGo_flat {α : Type} (en : α → D) {asg : D → Option Env} {test : Env → St → Option (Bool × St)} {elt : Env → St → Option (List D × St)} (f : α → List D) {st : St} : ∀ (l : List α),
    (∀ x ∈ l, ∃ env, asg (en x) = some env ∧ test env st = some (true, st) ∧ elt env st = some (f x, st)) → lcGo asg test elt (l.map en) st = some (l.flatMap f, st)
  | [], _ => rfl
  | x :: l, h => by
    obtain ⟨env, h1, h2, h3⟩ := h x (List.mem_cons_self ..)
    have ih := lcGo_flat en f l fun y hy => h y (List.mem_cons_of_mem _ hy)
    simp [lcGo, h1, h2, h3, ih]
/-- the store changes: what is found is told by a relation -/
theorem lcGo_st {α : Type} (en : α → D) {asg : D → Option Env} {test : Env → St → Option (Bool × St)} {elt : Env → St → Option (List D × St)} (I : List α → St → Prop) (f : α → D) : ∀ (l : List α) (st : St), I l st →
    (∀ x rem st, I (x :: rem) st → ∃ env b st', asg (en x) = some env ∧ test env st = some (b, st') ∧ I rem st' ∧ (b = true → elt env st' = some ([f x], st'))) →
    ∃ l' st', lcGo asg test elt (l.map en) st = some (l'.map f, st') ∧ I [] st' ∧ List.Sublist l' l
  | [], st, hi, _ => ⟨[], st, rfl, hi, .slnil⟩
  | x :: l, st, hi, h => by
    obtain ⟨env, b, st1, h1, h2, h3, h4⟩ := h x l st hi
    obtain ⟨l', st', e, hi', s⟩ := lcGo_st en I f l st1 h3 h
    cases b with
    | true => exact ⟨x :: l', st', by simp [lcGo, h1, h2, h4 rfl, e], hi', s.cons_cons x⟩
    | false => exact ⟨l', st', by simp [lcGo, h1, h2, e], hi', s.cons x⟩
theorem forGo_rel {α σ : Type} (en : α → D) {turn : D → Env → St → Option (Fl × Env × St)} (R : σ → Env → St → Prop) (step : σ → α → σ) : ∀ (l : List α) (s : σ) (env : Env) (st : St), R s env st →
    (∀ s x env st, x ∈ l → R s env st → ∃ env' st', turn (en x) env st = some (.nx, env', st') ∧ R (step s x) env' st') → ∃ env' st', forGo turn (l.map en) env st = some (.nx, env', st') ∧ R (l.foldl step s) env' st'
  | [], s, env, st, h, _ => ⟨env, st, rfl, h⟩
  | x :: l, s, env, st, h, g => by
    obtain ⟨env1, st1, h1, h2⟩ := g s x env st (List.mem_cons_self ..) h
    obtain ⟨env', st', h3, h4⟩ := forGo_rel en R step l (step s x) env1 st1 h2 fun s y env st hy => g s y env st (List.mem_cons_of_mem _ hy)
    exact ⟨env', st', by simp [forGo, h1, h3], h4⟩
/-- a loop by what holds ahead of each turn -/
theorem forGo_inv {α : Type} (en : α → D) {turn : D → Env → St → Option (Fl × Env × St)} (I : List α → Env → St → Prop) : ∀ (l : List α) (env : Env) (st : St), I l env st →
    (∀ x l env st, I (x :: l) env st → ∃ env' st', turn (en x) env st = some (.nx, env', st') ∧ I l env' st') → ∃ env' st', forGo turn (l.map en) env st = some (.nx, env', st') ∧ I [] env' st'
  | [], env, st, h, _ => ⟨env, st, rfl, h⟩
  | x :: l, env, st, h, g => by
    obtain ⟨env1, st1, h1, h2⟩ := g x l env st h
    obtain ⟨env', st', h3, h4⟩ := forGo_inv en I l env1 st1 h2 g
    exact ⟨env', st', by simp [forGo, h1, h3], h4⟩
theorem whl_true {test : Env → St → Option (D × St)} {body : Env → St → Option (Fl × Env × St)} {n : Nat} {env env1 : Env} {st st1 : St} (h1 : test env st = some (.bl true, st)) (h2 : body env st = some (.nx, env1, st1)) : whlGo test body (n + 1) env st = whlGo test body n env1 st1 := by
  simp [whlGo, h1, h2, tru]
theorem whl_false {test : Env → St → Option (D × St)} {body : Env → St → Option (Fl × Env × St)} {n : Nat} {env : Env} {st : St} (h1 : test env st = some (.bl false, st)) : whlGo test body (n + 1) env st = some (.nx, env, st) := by
  simp [whlGo, h1, tru]
/-- a while by a measure -/
theorem whl_inv {test : Env → St → Option (D × St)} {body : Env → St → Option (Fl × Env × St)} (I : Nat → Env → St → Prop) (J : Env → St → Prop) : ∀ (m N : Nat) (env : Env) (st : St), m < N → I m env st →
    (∀ m env st, I m env st → (test env st = some (.bl false, st) ∧ J env st) ∨ (test env st = some (.bl true, st) ∧ ∃ m' env' st', m' < m ∧ body env st = some (.nx, env', st') ∧ I m' env' st')) →
    ∃ env' st', whlGo test body N env st = some (.nx, env', st') ∧ J env' st' := by
  intro m
  induction m using Nat.strongRecOn with
  | _ m ih =>
    intro N env st hN hI h
    obtain ⟨n, rfl⟩ : ∃ n, N = n + 1 := ⟨N - 1, by omega⟩
    rcases h m env st hI with ⟨h1, h2⟩ | ⟨h1, m', env', st', h3, h4, h5⟩
    · exact ⟨env, st, whl_false h1, h2⟩
    · rw [whl_true h1 h4]
      exact ih m' h3 n env' st' (by omega) h5 h
end Pl
end

section
set_option autoImplicit false
set_option linter.all false
set_option maxRecDepth 100000
/-! Pl2: lots and lists of lots as values; sorting. -/
namespace Pl
open Mini
abbrev nD (n : Nat) : D := .int n
def lD (l : List Nat) : D := .tup (l.map nD)
def LT (F : List (List Nat)) : D := .tup (F.map lD)
def LL (F : List (List Nat)) : D := .lst (F.map lD)
def NL (l : List Nat) : D := .lst (l.map nD)
def cD (n : Nat) (F : List (List Nat)) : D := .tup [nD n, LT F]
/-! ### equality, kinds -/
theorem eqDs_map {α : Type} [DecidableEq α] (f : α → D) (h : ∀ a b, eqD (f a) (f b) = decide (a = b)) : ∀ l m : List α, eqDs (l.map f) (m.map f) = decide (l = m)
  | [], [] => by simp [eqDs]
  | [], _ :: _ => by simp [eqDs]
  | _ :: _, [] => by simp [eqDs]
  | a :: l, b :: m => by
    simp only [List.map_cons, eqDs, h, eqDs_map f h l m, List.cons.injEq]
    by_cases h1 : a = b <;> by_cases h2 : l = m <;> simp [h1, h2]
@[simp] theorem eqD_nD (a b : Nat) : eqD (nD a) (nD b) = decide (a = b) := by
  simp only [nD, eqD]
  by_cases h : a = b
  · simp [h]
  · have : ¬ (a : Int) = b := by omega
    simp [h, this]
@[simp] theorem eqD_lD (a b : List Nat) : eqD (lD a) (lD b) = decide (a = b) := by simp only [lD, eqD]; exact eqDs_map nD eqD_nD a b
theorem plains_map {α : Type} (f : α → D) (h : ∀ a, plain (f a) = true) : ∀ l : List α, plains (l.map f) = true
  | [] => by simp [plains]
  | a :: l => by simp [plains, h, plains_map f h l]
theorem depths_map {α : Type} (f : α → D) (k : Nat) (h : ∀ a, depth (f a) ≤ k) : ∀ l : List α, depths (l.map f) ≤ k
  | [] => by simp [depths]
  | a :: l => by
    simp only [List.map_cons, depths]
    exact Nat.max_le.mpr ⟨h a, depths_map f k h l⟩
@[simp] theorem plain_nD (n : Nat) : plain (nD n) = true := by simp [nD, plain]
@[simp] theorem plain_lD (l : List Nat) : plain (lD l) = true := by simp [lD, plain, plains_map nD plain_nD]
@[simp] theorem plain_LT (F : List (List Nat)) : plain (LT F) = true := by simp [LT, plain, plains_map lD plain_lD]
@[simp] theorem plain_LL (F : List (List Nat)) : plain (LL F) = true := by simp [LL, plain, plains_map lD plain_lD]
theorem depth_nD (n : Nat) : depth (nD n) ≤ 0 := by simp [nD, depth]
theorem depth_lD (l : List Nat) : depth (lD l) ≤ 1 := by
  have := depths_map nD 0 depth_nD l
  simp [lD, depth]; omega
theorem depth_LT (F : List (List Nat)) : depth (LT F) ≤ 2 := by
  have := depths_map lD 1 depth_lD F
  simp [LT, depth]; omega
theorem depth_LL (F : List (List Nat)) : depth (LL F) ≤ 2 := by
  have := depths_map lD 1 depth_lD F
  simp [LL, depth]; omega
theorem shallow_of {d : D} {k : Nat} (h : plain d = true) (h2 : depth d ≤ k) (hk : k ≤ 60) : shallow d = true := by
  unfold shallow
  rw [h, Bool.true_and, decide_eq_true_eq]
  omega
@[simp] theorem shallow_nD (n : Nat) : shallow (nD n) = true := shallow_of (plain_nD n) (depth_nD n) (by decide)
@[simp] theorem shallow_lD (n : List Nat) : shallow (lD n) = true := shallow_of (plain_lD n) (depth_lD n) (by decide)
@[simp] theorem shallow_LT (n : List (List Nat)) : shallow (LT n) = true := shallow_of (plain_LT n) (depth_LT n) (by decide)
@[simp] theorem shallow_LL (n : List (List Nat)) : shallow (LL n) = true := shallow_of (plain_LL n) (depth_LL n) (by decide)
@[simp] theorem plain_cD (n : Nat) (F : List (List Nat)) : plain (cD n F) = true := by simp [cD, plain, plains]
theorem depth_cD (n : Nat) (F : List (List Nat)) : depth (cD n F) ≤ 3 := by
  have := depth_LT F
  simp [cD, depth, depths]; omega
@[simp] theorem shallow_cD (n : Nat) (F : List (List Nat)) : shallow (cD n F) = true := shallow_of (plain_cD n F) (depth_cD n F) (by decide)
/-! ### membership -/
theorem any_map_eq {α : Type} [BEq α] [LawfulBEq α] [DecidableEq α] (f : α → D) (h : ∀ a b, eqD (f a) (f b) = decide (a = b)) (x : α) : ∀ l : List α, ((l.map f).any fun y => eqD y (f x)) = decide (x ∈ l)
  | [] => by simp
  | a :: l => by
    rw [List.map_cons, List.any_cons, any_map_eq f h x l, h]
    by_cases h1 : a = x
    · simp [h1]
    · have h2 : ¬ x = a := fun z => h1 z.symm
      simp [h1, h2]
theorem memT {α : Type} [BEq α] [LawfulBEq α] [DecidableEq α] (f : α → D) (h : ∀ a b, eqD (f a) (f b) = decide (a = b)) (hs : ∀ a, shallow (f a) = true) (hp : ∀ a, plain (f a) = true) (x : α) (l : List α) : memD (f x) (.tup (l.map f)) = some (decide (x ∈ l)) := by
  simp only [memD, hs, plains_map f hp, Bool.and_self, if_true, any_map_eq f h]
theorem memL {α : Type} [BEq α] [LawfulBEq α] [DecidableEq α] (f : α → D) (h : ∀ a b, eqD (f a) (f b) = decide (a = b)) (hs : ∀ a, shallow (f a) = true) (hp : ∀ a, plain (f a) = true) (x : α) (l : List α) : memD (f x) (.lst (l.map f)) = some (decide (x ∈ l)) := by
  simp only [memD, hs, plains_map f hp, Bool.and_self, if_true, any_map_eq f h]
@[simp] theorem mem_lD (x : Nat) (l : List Nat) : memD (nD x) (lD l) = some (decide (x ∈ l)) := memT nD eqD_nD shallow_nD plain_nD x l
@[simp] theorem mem_NL (x : Nat) (l : List Nat) : memD (nD x) (NL l) = some (decide (x ∈ l)) := memL nD eqD_nD shallow_nD plain_nD x l
@[simp] theorem mem_LT (x : List Nat) (l : List (List Nat)) : memD (lD x) (LT l) = some (decide (x ∈ l)) := memT lD eqD_lD shallow_lD plain_lD x l
@[simp] theorem mem_LL (x : List Nat) (l : List (List Nat)) : memD (lD x) (LL l) = some (decide (x ∈ l)) := memL lD eqD_lD shallow_lD plain_lD x l
/-! ### dicts whose keys are lots -/
@[simp] theorem key_lD (l : List Nat) : isKeyTup (lD l) = true := by
  simp only [lD, isKeyTup, List.all_map, List.all_eq_true]
  intro x _
  rfl
def dD (ks : List (List Nat)) (v : List Nat → D) : D := .dct (ks.map fun k => (lD k, v k))
theorem keys_all (ks : List (List Nat)) (v : List Nat → D) : ((ks.map fun k => (lD k, v k)).all fun p => isKeyTup p.1) = true := by
  simp [List.all_map, List.all_eq_true]
@[simp] theorem mem_dD (x : List Nat) (ks : List (List Nat)) (v : List Nat → D) : memD (lD x) (dD ks v) = some (decide (x ∈ ks)) := by
  simp only [dD, memD, key_lD, keys_all, Bool.and_self, if_true, List.any_map]
  congr 1
  rw [← any_map_eq lD eqD_lD x ks, List.any_map]
  rfl
theorem look_dD (x : List Nat) (v : List Nat → D) : ∀ ks : List (List Nat), look (ks.map fun k => (lD k, v k)) (lD x) = if x ∈ ks then some (v x) else none
  | [] => by simp [look]
  | k :: ks => by
    have ih := look_dD x v ks
    unfold look at ih ⊢
    rw [List.map_cons, List.find?_cons, eqD_lD]
    by_cases h : k = x
    · subst h; simp
    · have h' : ¬ x = k := fun z => h z.symm
      simp only [h, decide_false]
      rw [ih]
      simp [h']
/-- put in behind, if it is not there -/
def insE (ks : List (List Nat)) (k : List Nat) : List (List Nat) := if k ∈ ks then ks else ks ++ [k]
theorem put_dD (ks : List (List Nat)) (v : List Nat → D) (k : List Nat) (d : D) : put (ks.map fun k => (lD k, v k)) (lD k) d = (insE ks k).map fun x => (lD x, if x = k then d else v x) := by
  have ha : ((ks.map fun k => (lD k, v k)).any fun p => eqD p.1 (lD k)) = decide (k ∈ ks) := by
    rw [List.any_map, ← any_map_eq lD eqD_lD k ks, List.any_map]
    rfl
  unfold put insE
  rw [ha]
  by_cases h : k ∈ ks
  · simp only [h, decide_true, if_true, List.map_map]
    refine List.map_congr_left fun x _ => ?_
    by_cases hx : x = k
    · subst hx; simp
    · simp [hx]
  · simp only [h, decide_false, if_false, Bool.false_eq_true, List.map_append, List.map_cons, List.map_nil, if_true]
    congr 1
    refine List.map_congr_left fun x hx => ?_
    have : ¬ x = k := fun z => h (z ▸ hx)
    simp [this]
theorem insE_mem {ks : List (List Nat)} {k x : List Nat} : x ∈ insE ks k ↔ x ∈ ks ∨ x = k := by
  unfold insE
  split
  · rename_i h
    constructor
    · exact .inl
    · rintro (h' | rfl)
      · exact h'
      · exact h
  · simp
theorem insE_nodup {ks : List (List Nat)} {k : List Nat} (h : ks.Nodup) : (insE ks k).Nodup := by
  unfold insE
  split
  · exact h
  · rename_i hk
    rw [List.nodup_append]
    refine ⟨h, by simp, fun a ha b hb => ?_⟩
    rw [List.mem_singleton] at hb
    subst hb
    exact fun z => hk (z ▸ ha)
/-! ### sorting -/
section
variable {α : Type}
def insB (lt : α → α → Bool) (x : α) : List α → List α
  | [] => [x]
  | y :: ys => if lt y x then y :: insB lt x ys else x :: y :: ys
def srtB (lt : α → α → Bool) : List α → List α
  | [] => []
  | x :: xs => insB lt x (srtB lt xs)
theorem insL_map (f : α → D) (lt : α → α → Bool) (h : ∀ a b, ltD (f a) (f b) = lt a b) (x : α) : ∀ l : List α, sortD.insL (f x) (l.map f) = (insB lt x l).map f
  | [] => rfl
  | y :: ys => by
    simp only [List.map_cons, sortD.insL, insB, h]
    by_cases q : lt y x = true
    · simp [q, insL_map f lt h x ys]
    · simp [q]
theorem sortD_map (f : α → D) (lt : α → α → Bool) (h : ∀ a b, ltD (f a) (f b) = lt a b) : ∀ l : List α, sortD (l.map f) = (srtB lt l).map f
  | [] => rfl
  | x :: xs => by
    simp only [List.map_cons, sortD, srtB, sortD_map f lt h xs]
    exact insL_map f lt h x _
theorem insB_perm (lt : α → α → Bool) (x : α) : ∀ l : List α, (insB lt x l).Perm (x :: l)
  | [] => .refl _
  | y :: ys => by
    unfold insB
    split
    · exact ((insB_perm lt x ys).cons y).trans (.swap x y ys)
    · exact .refl _
theorem srtB_perm (lt : α → α → Bool) : ∀ l : List α, (srtB lt l).Perm l
  | [] => .refl _
  | x :: xs => (insB_perm lt x _).trans ((srtB_perm lt xs).cons x)
theorem srtB_mem {lt : α → α → Bool} {l : List α} {x : α} : x ∈ srtB lt l ↔ x ∈ l := (srtB_perm lt l).mem_iff
theorem srtB_length (lt : α → α → Bool) (l : List α) : (srtB lt l).length = l.length := (srtB_perm lt l).length_eq
/-- a strict order of all -/
structure Ord (lt : α → α → Bool) : Prop where
  irr : ∀ a, lt a a = false
  tr : ∀ a b c, lt a b = true → lt b c = true → lt a c = true
  tot : ∀ a b, a ≠ b → lt a b = true ∨ lt b a = true
variable {lt : α → α → Bool}
abbrev Asc (lt : α → α → Bool) (l : List α) : Prop := l.Pairwise fun a b => lt a b = true
theorem insB_asc (O : Ord lt) (x : α) : ∀ {l : List α}, Asc lt l → x ∉ l → Asc lt (insB lt x l)
  | [], _, _ => by simp [insB]
  | y :: ys, h, hx => by
    have h := List.pairwise_cons.mp h
    have hxy : x ≠ y := fun z => hx (z ▸ List.mem_cons_self ..)
    have hx' : x ∉ ys := fun z => hx (List.mem_cons_of_mem _ z)
    unfold insB
    split
    · rename_i q
      refine List.pairwise_cons.mpr ⟨fun z hz => ?_, insB_asc O x h.2 hx'⟩
      rcases List.mem_cons.mp ((insB_perm lt x ys).mem_iff.mp hz) with rfl | hz
      · exact q
      · exact h.1 z hz
    · rename_i q
      have q' : lt x y = true := (O.tot x y hxy).elim id fun z => absurd z q
      refine List.pairwise_cons.mpr ⟨fun z hz => ?_, List.pairwise_cons.mpr h⟩
      rcases List.mem_cons.mp hz with rfl | hz
      · exact q'
      · exact O.tr _ _ _ q' (h.1 z hz)
theorem srtB_asc (O : Ord lt) : ∀ {l : List α}, l.Nodup → Asc lt (srtB lt l)
  | [], _ => .nil
  | x :: xs, h => by
    rw [List.nodup_cons] at h
    exact insB_asc O x (srtB_asc O h.2) fun z => h.1 (srtB_mem.mp z)
theorem Asc.nodup (O : Ord lt) {l : List α} (h : Asc lt l) : l.Nodup := by
  refine List.Pairwise.imp (fun {a b} q z => ?_) h
  subst z
  rw [O.irr] at q; cases q
/-- two strictly sorted lists of the same things are one -/
theorem asc_ext (O : Ord lt) : ∀ {l m : List α}, Asc lt l → Asc lt m → (∀ x, x ∈ l ↔ x ∈ m) → l = m
  | [], [], _, _, _ => rfl
  | [], b :: m, _, _, h => absurd ((h b).mpr (List.mem_cons_self ..)) (by simp)
  | a :: l, [], _, _, h => absurd ((h a).mp (List.mem_cons_self ..)) (by simp)
  | a :: l, b :: m, hl, hm, h => by
    have hl := List.pairwise_cons.mp hl
    have hm := List.pairwise_cons.mp hm
    have e : a = b := by
      rcases List.mem_cons.mp ((h a).mp (List.mem_cons_self ..)) with e | e
      · exact e
      · rcases List.mem_cons.mp ((h b).mpr (List.mem_cons_self ..)) with e2 | e2
        · exact e2.symm
        · have := O.tr _ _ _ (hl.1 b e2) (hm.1 a e)
          rw [O.irr] at this; cases this
    subst e
    rw [asc_ext O hl.2 hm.2 fun x => ?_]
    have na : a ∉ l := fun z => by have := hl.1 a z; rw [O.irr] at this; cases this
    have nb : a ∉ m := fun z => by have := hm.1 a z; rw [O.irr] at this; cases this
    constructor
    · intro hx
      rcases List.mem_cons.mp ((h x).mp (List.mem_cons_of_mem _ hx)) with rfl | q
      · exact absurd hx na
      · exact q
    · intro hx
      rcases List.mem_cons.mp ((h x).mpr (List.mem_cons_of_mem _ hx)) with rfl | q
      · exact absurd hx nb
      · exact q
theorem srtB_id (O : Ord lt) {l : List α} (h : Asc lt l) : srtB lt l = l := asc_ext O (srtB_asc O (h.nodup O)) h fun _ => srtB_mem
/-- sorted in one way or the other -/
theorem srtB_ext (O : Ord lt) {l m : List α} (h1 : l.Nodup) (h2 : m.Nodup) (h : ∀ x, x ∈ l ↔ x ∈ m) : srtB lt l = srtB lt m := asc_ext O (srtB_asc O h1) (srtB_asc O h2) fun x => by rw [srtB_mem, srtB_mem, h]
theorem Asc.filter {l : List α} (h : Asc lt l) (p : α → Bool) : Asc lt (l.filter p) := List.Pairwise.filter _ h
end
/-! ### the orders -/
def ltN (a b : Nat) : Bool := decide (a < b)
theorem ordN : Ord ltN := ⟨fun a => by simp [ltN], fun a b c h1 h2 => by simp [ltN] at *; omega, fun a b h => by simp [ltN]; omega⟩
def ltL : List Nat → List Nat → Bool
  | [], [] => false
  | [], _ :: _ => true
  | _ :: _, [] => false
  | x :: xs, y :: ys => if x = y then ltL xs ys else decide (x < y)
theorem ltL_irr : ∀ a : List Nat, ltL a a = false
  | [] => rfl
  | x :: xs => by simp [ltL, ltL_irr xs]
theorem ltL_tr : ∀ a b c : List Nat, ltL a b = true → ltL b c = true → ltL a c = true
  | [], [], _, h, _ => by simp [ltL] at h
  | [], _ :: _, [], _, h => by simp [ltL] at h
  | [], _ :: _, _ :: _, _, _ => by simp [ltL]
  | _ :: _, [], _, h, _ => by simp [ltL] at h
  | _ :: _, _ :: _, [], _, h => by simp [ltL] at h
  | x :: xs, y :: ys, z :: zs, h1, h2 => by
    simp only [ltL] at *
    split at h1
    · rename_i e; subst e
      split at h2
      · rename_i e; subst e
        simp [ltL_tr xs ys zs h1 h2]
      · rename_i e
        simp [e] at *; exact h2
    · rename_i e
      split at h2
      · rename_i e2; subst e2
        simp [e] at *; exact h1
      · rename_i e2
        simp at h1 h2
        have : ¬ x = z := by omega
        simp [this]; omega
theorem ltL_tot : ∀ a b : List Nat, a ≠ b → ltL a b = true ∨ ltL b a = true
  | [], [], h => absurd rfl h
  | [], _ :: _, _ => .inl rfl
  | _ :: _, [], _ => .inr rfl
  | x :: xs, y :: ys, h => by
    by_cases e : x = y
    · subst e
      have : xs ≠ ys := fun z => h (z ▸ rfl)
      simp [ltL]
      exact ltL_tot xs ys this
    · have e' : ¬ y = x := fun z => e z.symm
      simp [ltL, e, e']; omega
theorem ordL : Ord ltL := ⟨ltL_irr, ltL_tr, ltL_tot⟩
@[simp] theorem ltD_nD (a b : Nat) : ltD (nD a) (nD b) = ltN a b := by simp [nD, ltD, ltN]
theorem ltDs_nD : ∀ a b : List Nat, ltDs (a.map nD) (b.map nD) = ltL a b
  | [], [] => rfl
  | [], _ :: _ => rfl
  | _ :: _, [] => rfl
  | x :: xs, y :: ys => by
    have h1 := eqD_nD x y
    have h2 := ltD_nD x y
    simp only [List.map_cons, ltDs, h1, h2, ltL, ltDs_nD xs ys, ltN]
    by_cases e : x = y <;> simp [e]
@[simp] theorem ltD_lD (a b : List Nat) : ltD (lD a) (lD b) = ltL a b := by simp [lD, ltD, ltDs_nD]
theorem sort_NL (l : List Nat) : sortD (l.map nD) = (srtB ltN l).map nD := sortD_map nD ltN ltD_nD l
theorem sort_LL (l : List (List Nat)) : sortD (l.map lD) = (srtB ltL l).map lD := sortD_map lD ltL ltD_lD l
theorem isIntTup_lD (l : List Nat) : isIntTup (lD l) = true := by simp [lD, isIntTup, List.all_map]; intro x _; rfl
theorem allTup (F : List (List Nat)) : (F.map lD).all isIntTup = true := by simp [List.all_map, List.all_eq_true, isIntTup_lD]
theorem allInt (l : List Nat) : (l.map nD).all isIntD = true := by simp [List.all_map, List.all_eq_true]; intro x _; rfl
theorem srtT (F : List (List Nat)) : sortable (F.map lD) = true := by
  unfold sortable
  rw [allTup, Bool.or_true, Bool.true_or]
theorem srtI (l : List Nat) : sortable (l.map nD) = true := by
  unfold sortable
  rw [allInt, Bool.true_or, Bool.true_or]
theorem bi_sorted (d : D) : biD .sorted [d] = (itemsD d).bind fun xs => if sortable xs && !isSet d then some (.lst (sortD xs)) else none := by cases d <;> rfl
@[simp] theorem bi_sorted_LL (F : List (List Nat)) : biD .sorted [LL F] = some (LL (srtB ltL F)) := by
  rw [bi_sorted]
  simp only [LL, itemsD, Option.bind_some, srtT, isSet, sort_LL, Bool.not_false, Bool.and_self, if_true]
@[simp] theorem bi_sorted_NL (l : List Nat) : biD .sorted [NL l] = some (NL (srtB ltN l)) := by
  rw [bi_sorted]
  simp only [NL, itemsD, Option.bind_some, srtI, isSet, sort_NL, Bool.not_false, Bool.and_self, if_true]
@[simp] theorem bi_sorted_lD (l : List Nat) : biD .sorted [lD l] = some (NL (srtB ltN l)) := by
  rw [bi_sorted]
  simp only [NL, lD, itemsD, Option.bind_some, srtI, isSet, sort_NL, Bool.not_false, Bool.and_self, if_true]
@[simp] theorem bi_sorted_dD (ks : List (List Nat)) (v : List Nat → D) : biD .sorted [dD ks v] = some (LL (srtB ltL ks)) := by
  have e : (ks.map fun k => (lD k, v k)).map (·.1) = ks.map lD := by simp [List.map_map, Function.comp_def]
  rw [bi_sorted]
  simp only [dD, LL, itemsD, Option.bind_some, e, srtT, isSet, sort_LL, Bool.not_false, Bool.and_self, if_true]
@[simp] theorem bi_tuple_LL (F : List (List Nat)) : biD .tuple [LL F] = some (LT F) := rfl
@[simp] theorem bi_tuple_NL (l : List Nat) : biD .tuple [NL l] = some (lD l) := rfl
@[simp] theorem bi_list_LT (F : List (List Nat)) : biD .list [LT F] = some (LL F) := rfl
@[simp] theorem bi_len_lD (l : List Nat) : biD .len [lD l] = some (nD l.length) := by simp [biD, lenD, lD]
@[simp] theorem bi_len_NL (l : List Nat) : biD .len [NL l] = some (nD l.length) := by simp [biD, lenD, NL]
@[simp] theorem bi_len_LL (l : List (List Nat)) : biD .len [LL l] = some (nD l.length) := by simp [biD, lenD, LL]
theorem bools_map {α : Type} (p : α → Bool) : ∀ l : List α, boolsOf (l.map fun x => .bl (p x)) = some (l.map p)
  | [] => rfl
  | x :: l => by simp [boolsOf, bools_map p l]
@[simp] theorem bi_all {α : Type} (p : α → Bool) (l : List α) : biD .all [.lst (l.map fun x => .bl (p x))] = some (.bl (l.all p)) := by simp [biD, bools_map, List.all_map, Function.comp_def]
@[simp] theorem bi_any {α : Type} (p : α → Bool) (l : List α) : biD .any [.lst (l.map fun x => .bl (p x))] = some (.bl (l.any p)) := by simp [biD, bools_map, List.any_map, Function.comp_def]
@[simp] theorem seq_lD (l : List Nat) : seqD (lD l) = some (l.map nD) := rfl
@[simp] theorem seq_NL (l : List Nat) : seqD (NL l) = some (l.map nD) := rfl
@[simp] theorem seq_LT (l : List (List Nat)) : seqD (LT l) = some (l.map lD) := rfl
@[simp] theorem seq_LL (l : List (List Nat)) : seqD (LL l) = some (l.map lD) := rfl
end Pl
end

section
set_option autoImplicit false
set_option linter.all false
set_option maxRecDepth 100000
/-! the trees of the defs, by the places of the defs that they call (printed) -/
namespace TL
open Mini
/-- is_integer(value): 0:value -/
def b0 (g h : Nat → Nat) : T := (.cons (.ret (.and (.bi .isInt (.cons (.var 0) .nil)) (.nt (.bi .isBool (.cons (.var 0) .nil))))) .nil)
def f0 (g h : Nat → Nat) : Fn := ⟨1, 1, b0 g h⟩
/-- is_from(value, least, most): 0:value 1:least 2:most -/
def b1 (g h : Nat → Nat) : T := (.cons (.ret (.and (.call (g 0) (.cons (.var 0) .nil)) (.chn .le .le (.var 1) (.var 0) (.var 2)))) .nil)
def f1 (g h : Nat → Nat) : Fn := ⟨3, 3, b1 g h⟩
/-- is_lot(many, value): 0:many 1:value 2:near 3:far 4:one -/
def b2 (g h : Nat → Nat) : T := (.cons (.ifs (.or (.nt (.bi .isTuple (.cons (.var 1) .nil))) (.nt (.bi .all (.cons (.lc [4] (.call (g 1) (.cons (.var 4) (.cons (.cst (.int 0)) (.cons (.bin .sub (.var 0) (.cst (.int 1))) .nil)))) (.var 4) (.var 1) .nil) .nil)))) (.cons (.ret (.cst (.bl false))) .nil) .nil) (.cons (.ret (.bi .all (.cons (.lc [2, 3] (.cmp .lt (.var 2) (.var 3)) (.tup (.cons (.var 2) (.cons (.var 3) .nil))) (.zip (.var 1) (.slc (.var 1) (.cst (.int 1)) (.cst .non))) .nil) .nil))) .nil))
def f2 (g h : Nat → Nat) : Fn := ⟨2, 5, b2 g h⟩
/-- need_lot(many, lot): 0:many 1:lot -/
def b3 (g h : Nat → Nat) : T := (.cons (.ifs (.nt (.call (g 2) (.cons (.var 0) (.cons (.var 1) .nil)))) (.cons .nil .nil) .nil) (.cons (.ret (.var 1)) .nil))
def f3 (g h : Nat → Nat) : Fn := ⟨2, 2, b3 g h⟩
/-- lies_in(near, far): 0:near 1:far 2:one -/
def b4 (g h : Nat → Nat) : T := (.cons (.ret (.bi .all (.cons (.lc [2] (.cmp .mem (.var 2) (.var 1)) (.var 2) (.var 0) .nil) .nil))) .nil)
def f4 (g h : Nat → Nat) : Fn := ⟨2, 3, b4 g h⟩
/-- facets_fault(many, facets): 0:many 1:facets 2:number 3:facet 4:ahead 5:one -/
def b5 (g h : Nat → Nat) : T := (.cons (.for_ (.tup (.cons (.var 2) (.cons (.var 3) .nil))) (.enm (.var 1)) (.cons (.asg (.var 4) (.slc (.var 1) (.cst .non) (.var 2))) (.cons (.ifs (.or (.nt (.call (g 2) (.cons (.var 0) (.cons (.var 3) .nil)))) (.and (.cmp .ne (.var 4) (.tup .nil)) (.cmp .le (.var 3) (.ix (.var 4) (.neg (.cst (.int 1))))))) (.cons (.ret (.var 2)) .nil) .nil) (.cons (.ifs (.bi .any (.cons (.lc [5] (.or (.call (g 4) (.cons (.var 5) (.cons (.var 3) .nil))) (.call (g 4) (.cons (.var 3) (.cons (.var 5) .nil)))) (.var 5) (.var 4) .nil) .nil)) (.cons (.ret (.var 2)) .nil) .nil) .nil)))) (.cons (.ret (.cst .non)) .nil))
def f5 (g h : Nat → Nat) : Fn := ⟨2, 6, b5 g h⟩
/-- complex_fault(value): 0:value 1:found -/
def b6 (g h : Nat → Nat) : T := (.cons (.ifs (.or (.nt (.bi .isTuple (.cons (.var 0) .nil))) (.cmp .ne (.bi .len (.cons (.var 0) .nil)) (.cst (.int 2)))) (.cons (.ret (.tup .nil)) .nil) .nil) (.cons (.ifs (.nt (.call (g 1) (.cons (.ix (.var 0) (.cst (.int 0))) (.cons (.cst (.int 1)) (.cons (.glo (h 0)) .nil))))) (.cons (.ret (.tup (.cons (.cst (.int 0)) .nil))) .nil) .nil) (.cons (.ifs (.nt (.bi .isTuple (.cons (.ix (.var 0) (.cst (.int 1))) .nil))) (.cons (.ret (.tup (.cons (.cst (.int 1)) .nil))) .nil) .nil) (.cons (.asg (.var 1) (.call (g 5) (.cons (.ix (.var 0) (.cst (.int 0))) (.cons (.ix (.var 0) (.cst (.int 1))) .nil)))) (.cons (.ret (.ife (.cmp .isn (.var 1) (.cst .non)) (.tup (.cons (.cst (.int 1)) (.cons (.var 1) .nil))) (.cst .non))) .nil)))))
def f6 (g h : Nat → Nat) : Fn := ⟨1, 2, b6 g h⟩
/-- need_complex(body): 0:body 1:found -/
def b7 (g h : Nat → Nat) : T := (.cons (.asg (.var 1) (.call (g 6) (.cons (.var 0) .nil))) (.cons (.ifs (.cmp .isn (.var 1) (.cst .non)) (.cons .nil .nil) .nil) (.cons (.ret (.var 0)) .nil)))
def f7 (g h : Nat → Nat) : Fn := ⟨1, 2, b7 g h⟩
/-- need_complexes(body, other): 0:body 1:other -/
def b8 (g h : Nat → Nat) : T := (.cons (.exp (.call (g 7) (.cons (.var 0) .nil))) (.cons (.exp (.call (g 7) (.cons (.var 1) .nil))) .nil))
def f8 (g h : Nat → Nat) : Fn := ⟨2, 2, b8 g h⟩
/-- greatest_in(lots): 0:lots 1:found! 2:lot 3:one -/
def b9 (g h : Nat → Nat) : T := (.cons (.asgO 1 (.lst .nil)) (.cons (.for_ (.var 2) (.srtL (.dc [2] (.var 2) (.cst (.bl true)) (.var 2) (.var 0) .nil)) (.cons (.ifs (.nt (.bi .any (.cons (.lc [3] (.call (g 4) (.cons (.var 2) (.cons (.var 3) .nil))) (.var 3) (.var 1) .nil) .nil))) (.cons (.app 1 (.var 2)) .nil) .nil) .nil)) (.cons (.ret (.bi .tuple (.cons (.bi .sorted (.cons (.var 1) .nil)) .nil))) .nil)))
def f9 (g h : Nat → Nat) : Fn := ⟨1, 4, b9 g h⟩
/-- complex_in(many, lots): 0:many 1:lots -/
def b10 (g h : Nat → Nat) : T := (.cons (.ret (.tup (.cons (.var 0) (.cons (.call (g 9) (.cons (.var 1) .nil)) .nil)))) .nil)
def f10 (g h : Nat → Nat) : Fn := ⟨2, 2, b10 g h⟩
/-- lots_within(lot): 0:lot 1:found 2:place 3:one -/
def b11 (g h : Nat → Nat) : T := (.cons (.asg (.var 1) (.lst (.cons (.tup .nil) .nil))) (.cons (.for_ (.var 2) (.var 0) (.cons (.asg (.var 1) (.bin .add (.var 1) (.lc [3] (.bin .add (.var 3) (.tup (.cons (.var 2) .nil))) (.var 3) (.var 1) .nil))) .nil)) (.cons (.ret (.var 1)) .nil)))
def f11 (g h : Nat → Nat) : Fn := ⟨1, 4, b11 g h⟩
/-- faces_in(body): 0:body 1:found! 2:facet 3:lot -/
def b12 (g h : Nat → Nat) : T := (.cons (.asgO 1 (.dsp .nil)) (.cons (.for_ (.var 2) (.ix (.var 0) (.cst (.int 1))) (.cons (.for_ (.var 3) (.call (g 11) (.cons (.var 2) .nil)) (.cons (.setI 1 (.var 3) (.cst (.bl true))) .nil)) .nil)) (.cons (.ret (.bi .sorted (.cons (.var 1) .nil))) .nil)))
def f12 (g h : Nat → Nat) : Fn := ⟨1, 4, b12 g h⟩
/-- is_face_in(body, lot): 0:body 1:lot 2:facet -/
def b13 (g h : Nat → Nat) : T := (.cons (.ret (.bi .any (.cons (.lc [2] (.call (g 4) (.cons (.var 1) (.cons (.var 2) .nil))) (.var 2) (.ix (.var 0) (.cst (.int 1))) .nil) .nil))) .nil)
def f13 (g h : Nat → Nat) : Fn := ⟨2, 3, b13 g h⟩
/-- places_in(body): 0:body 1:place -/
def b14 (g h : Nat → Nat) : T := (.cons (.ret (.lc [1] (.var 1) (.var 1) (.rng1 (.ix (.var 0) (.cst (.int 0)))) (.cons (.call (g 13) (.cons (.var 0) (.cons (.tup (.cons (.var 1) .nil)) .nil))) .nil))) .nil)
def f14 (g h : Nat → Nat) : Fn := ⟨1, 2, b14 g h⟩
/-- less_lot(lot, other): 0:lot 1:other 2:place -/
def b15 (g h : Nat → Nat) : T := (.cons (.ret (.bi .tuple (.cons (.lc [2] (.var 2) (.var 2) (.var 0) (.cons (.cmp .nmem (.var 2) (.var 1)) .nil)) .nil))) .nil)
def f15 (g h : Nat → Nat) : Fn := ⟨2, 3, b15 g h⟩
/-- without_in(body, lot): 0:body 1:lot 2:found! 3:facet 4:place -/
def b16 (g h : Nat → Nat) : T := (.cons (.asgO 2 (.lst .nil)) (.cons (.for_ (.var 3) (.ix (.var 0) (.cst (.int 1))) (.cons (.ifs (.call (g 4) (.cons (.var 1) (.cons (.var 3) .nil))) (.cons (.asgO 2 (.bin .add (.var 2) (.lc [4] (.call (g 15) (.cons (.var 3) (.cons (.tup (.cons (.var 4) .nil)) .nil))) (.var 4) (.var 1) .nil))) .nil) (.cons (.app 2 (.var 3)) .nil)) .nil)) (.cons (.fz 2) (.cons (.ret (.call (g 10) (.cons (.ix (.var 0) (.cst (.int 0))) (.cons (.var 2) .nil)))) .nil))))
def f16 (g h : Nat → Nat) : Fn := ⟨2, 5, b16 g h⟩
/-- without(body, lot): 0:body 1:lot -/
def b17 (g h : Nat → Nat) : T := (.cons (.exp (.call (g 7) (.cons (.var 0) .nil))) (.cons (.ret (.call (g 16) (.cons (.var 0) (.cons (.call (g 3) (.cons (.ix (.var 0) (.cst (.int 0))) (.cons (.var 1) .nil))) .nil)))) .nil))
def f17 (g h : Nat → Nat) : Fn := ⟨2, 2, b17 g h⟩
/-- walls_of(body): 0:body 1:found! 2:facet 3:place 4:wall -/
def b18 (g h : Nat → Nat) : T := (.cons (.asgO 1 (.dsp .nil)) (.cons (.for_ (.var 2) (.ix (.call (g 7) (.cons (.var 0) .nil)) (.cst (.int 1))) (.cons (.for_ (.var 3) (.var 2) (.cons (.asg (.var 4) (.call (g 15) (.cons (.var 2) (.cons (.tup (.cons (.var 3) .nil)) .nil)))) (.cons (.setI 1 (.var 4) (.bin .add (.get2 (.var 1) (.var 4) (.cst (.int 0))) (.cst (.int 1)))) .nil))) .nil)) (.cons (.ret (.bi .tuple (.cons (.lc [4] (.tup (.cons (.var 4) (.cons (.ix (.var 1) (.var 4)) .nil))) (.var 4) (.bi .sorted (.cons (.var 1) .nil)) .nil) .nil))) .nil)))
def f18 (g h : Nat → Nat) : Fn := ⟨1, 5, b18 g h⟩
/-- spread_in(body, place): 0:body 1:place 2:found 3:number 4:facet 5:one -/
def b19 (g h : Nat → Nat) : T := (.cons (.par (.cons (.var 2) (.cons (.var 3) .nil)) (.cons (.lst (.cons (.var 1) .nil)) (.cons (.cst (.int 0)) .nil))) (.cons (.whl (.cmp .lt (.var 3) (.bi .len (.cons (.var 2) .nil))) (.cons (.for_ (.var 4) (.ix (.var 0) (.cst (.int 1))) (.cons (.ifs (.cmp .mem (.ix (.var 2) (.var 3)) (.var 4)) (.cons (.asg (.var 2) (.bin .add (.var 2) (.lc [5] (.var 5) (.var 5) (.var 4) (.cons (.cmp .nmem (.var 5) (.var 2)) .nil)))) .nil) .nil) .nil)) (.cons (.aug 3 .add (.cst (.int 1))) .nil))) (.cons (.ret (.bi .tuple (.cons (.bi .sorted (.cons (.var 2) .nil)) .nil))) .nil)))
def f19 (g h : Nat → Nat) : Fn := ⟨2, 6, b19 g h⟩
/-- parts_of(body): 0:body 1:place -/
def b20 (g h : Nat → Nat) : T := (.cons (.exp (.call (g 7) (.cons (.var 0) .nil))) (.cons (.ret (.bi .tuple (.cons (.bi .sorted (.cons (.dc [1] (.call (g 19) (.cons (.var 0) (.cons (.var 1) .nil))) (.cst (.bl true)) (.var 1) (.call (g 14) (.cons (.var 0) .nil)) .nil) .nil)) .nil))) .nil))
def f20 (g h : Nat → Nat) : Fn := ⟨1, 2, b20 g h⟩
/-- tips_of(body): 0:body 1:facets 2:place 3:facet -/
def b21 (g h : Nat → Nat) : T := (.cons (.asg (.var 1) (.ix (.call (g 7) (.cons (.var 0) .nil)) (.cst (.int 1)))) (.cons (.ifs (.cmp .eq (.var 1) (.tup .nil)) (.cons (.ret (.tup .nil)) .nil) .nil) (.cons (.ret (.bi .tuple (.cons (.lc [2] (.var 2) (.var 2) (.ix (.var 1) (.cst (.int 0))) (.cons (.bi .all (.cons (.lc [3] (.cmp .mem (.var 2) (.var 3)) (.var 3) (.var 1) .nil) .nil)) .nil)) .nil))) .nil)))
def f21 (g h : Nat → Nat) : Fn := ⟨1, 4, b21 g h⟩
/-- misses_in(body): 0:body 1:faces 2:found! 3:lot 4:face 5:place -/
def b22 (g h : Nat → Nat) : T := (.cons (.asg (.var 1) (.dc [4] (.var 4) (.cst (.bl true)) (.var 4) (.call (g 12) (.cons (.var 0) .nil)) .nil)) (.cons (.asgO 2 (.lst .nil)) (.cons (.for_ (.var 3) (.call (g 11) (.cons (.bi .tuple (.cons (.rng1 (.ix (.var 0) (.cst (.int 0)))) .nil)) .nil)) (.cons (.ifs (.and (.cmp .nmem (.var 3) (.var 1)) (.bi .all (.cons (.lc [5] (.cmp .mem (.call (g 15) (.cons (.var 3) (.cons (.tup (.cons (.var 5) .nil)) .nil))) (.var 1)) (.var 5) (.var 3) .nil) .nil))) (.cons (.app 2 (.var 3)) .nil) .nil) .nil)) (.cons (.ret (.bi .sorted (.cons (.var 2) .nil))) .nil))))
def f22 (g h : Nat → Nat) : Fn := ⟨1, 6, b22 g h⟩
/-- misses_of(body): 0:body -/
def b23 (g h : Nat → Nat) : T := (.cons (.ret (.bi .tuple (.cons (.call (g 22) (.cons (.call (g 7) (.cons (.var 0) .nil)) .nil)) .nil))) .nil)
def f23 (g h : Nat → Nat) : Fn := ⟨1, 1, b23 g h⟩
/-- behind_in(body, many): 0:body 1:many 2:facet 3:place -/
def b24 (g h : Nat → Nat) : T := (.cons (.ret (.lc [2] (.bi .tuple (.cons (.lc [3] (.bin .add (.var 3) (.var 1)) (.var 3) (.var 2) .nil) .nil)) (.var 2) (.ix (.var 0) (.cst (.int 1))) .nil)) .nil)
def f24 (g h : Nat → Nat) : Fn := ⟨2, 4, b24 g h⟩
/-- let_many(many): 0:many -/
def b25 (g h : Nat → Nat) : T := (.cons (.ifs (.cmp .gt (.var 0) (.glo (h 0))) (.cons .nil .nil) .nil) (.cons (.ret (.var 0)) .nil))
def f25 (g h : Nat → Nat) : Fn := ⟨1, 1, b25 g h⟩
/-- joined_in(body, other): 0:body 1:other 2:many 3:found 4:facet 5:far -/
def b26 (g h : Nat → Nat) : T := (.cons (.asg (.var 2) (.call (g 25) (.cons (.bin .add (.ix (.var 0) (.cst (.int 0))) (.ix (.var 1) (.cst (.int 0)))) .nil))) (.cons (.asg (.var 3) (.lc2 [4, 5] [5] (.bin .add (.var 4) (.var 5)) (.var 4) (.ix (.var 0) (.cst (.int 1))) .nil (.var 5) (.call (g 24) (.cons (.var 1) (.cons (.ix (.var 0) (.cst (.int 0))) .nil))) .nil)) (.cons (.ret (.tup (.cons (.var 2) (.cons (.bi .tuple (.cons (.bi .sorted (.cons (.var 3) .nil)) .nil)) .nil)))) .nil)))
def f26 (g h : Nat → Nat) : Fn := ⟨2, 6, b26 g h⟩
/-- beside_in(body, other): 0:body 1:other 2:many -/
def b27 (g h : Nat → Nat) : T := (.cons (.asg (.var 2) (.call (g 25) (.cons (.bin .add (.ix (.var 0) (.cst (.int 0))) (.ix (.var 1) (.cst (.int 0)))) .nil))) (.cons (.ret (.call (g 10) (.cons (.var 2) (.cons (.bin .add (.bi .list (.cons (.ix (.var 0) (.cst (.int 1))) .nil)) (.call (g 24) (.cons (.var 1) (.cons (.ix (.var 0) (.cst (.int 0))) .nil)))) .nil)))) .nil))
def f27 (g h : Nat → Nat) : Fn := ⟨2, 3, b27 g h⟩
/-- beside(body, other): 0:body 1:other -/
def b28 (g h : Nat → Nat) : T := (.cons (.exp (.call (g 8) (.cons (.var 0) (.cons (.var 1) .nil)))) (.cons (.ret (.call (g 27) (.cons (.var 0) (.cons (.var 1) .nil)))) .nil))
def f28 (g h : Nat → Nat) : Fn := ⟨2, 2, b28 g h⟩
/-- coned(body): 0:body -/
def b29 (g h : Nat → Nat) : T := (.cons (.ret (.call (g 26) (.cons (.call (g 7) (.cons (.var 0) .nil)) (.cons (.glo (h 1)) .nil)))) .nil)
def f29 (g h : Nat → Nat) : Fn := ⟨1, 1, b29 g h⟩
/-- _law_begun(script, turn): 0:script 1:turn 2:cells 3:great 4:seed 5:cell -/
def b30 (g h : Nat → Nat) : T := (.cons (.asg (.var 2) (.bin .add (.slc (.var 0) (.var 1) (.cst .non)) (.slc (.var 0) (.cst .non) (.var 1)))) (.cons (.asg (.var 3) (.lc [5] (.var 5) (.var 5) (.var 0) (.cons (.cmp .ge (.var 5) (.bin .pow (.cst (.int 10)) (.cst (.int 18)))) .nil))) (.cons (.asg (.var 4) (.bin .add (.cst (.int 91)) (.var 1))) (.cons (.for_ (.var 5) (.var 2) (.cons (.asg (.var 4) (.bin .mod (.bi .int (.cons (.bin .add (.bin .mul (.var 4) (.cst (.int 48271))) (.var 5)) .nil)) (.cst (.int 2147483647)))) .nil)) (.cons (.ret (.dsp (.cons (.pair (.cst (.str [108, 101, 102, 116])) (.ife (.cmp .lt (.var 1) (.bi .len (.cons (.var 3) .nil))) (.ix (.var 3) (.var 1)) (.cst (.int 0)))) (.cons (.pair (.cst (.str [115, 101, 101, 100])) (.var 4)) (.cons (.pair (.cst (.str [99, 101, 108, 108, 115])) (.bin .add (.var 2) (.lst (.cons (.bin .add (.bin .mul (.cst (.int 61)) (.var 1)) (.cst (.int 17))) .nil)))) (.cons (.pair (.cst (.str [115, 112, 111, 116])) (.cst (.int 0))) .nil)))))) .nil)))))
def f30 (g h : Nat → Nat) : Fn := ⟨2, 6, b30 g h⟩
/-- _law_draw(m, span): 0:m 1:span 2:spot 3:cell 4:blend 5:found 6:cells 7:extra -/
def b31 (g h : Nat → Nat) : T := (.cons (.ifs (.cmp .gt (.ix (.var 0) (.cst (.str [108, 101, 102, 116]))) (.cst (.int 0))) (.cons (.asg (.var 5) (.bin .mod (.bi .int (.cons (.ix (.var 0) (.cst (.str [108, 101, 102, 116]))) .nil)) (.var 1))) (.cons (.asgM (.var 0) (.cst (.str [108, 101, 102, 116])) (.bin .fdiv (.ix (.var 0) (.cst (.str [108, 101, 102, 116]))) (.var 1))) (.cons (.ret (.var 5)) .nil))) .nil) (.cons (.asg (.var 2) (.ix (.var 0) (.cst (.str [115, 112, 111, 116])))) (.cons (.asgM (.var 0) (.cst (.str [115, 112, 111, 116])) (.bin .add (.var 2) (.cst (.int 1)))) (.cons (.par (.cons (.var 6) (.cons (.var 7) .nil)) (.cons (.ix (.var 0) (.cst (.str [99, 101, 108, 108, 115]))) (.cons (.bin .add (.ix (.var 0) (.cst (.str [115, 101, 101, 100]))) (.bin .mul (.bin .mul (.cst (.int 40503)) (.var 2)) (.var 2))) .nil))) (.cons (.asg (.var 3) (.ix (.var 6) (.bin .mod (.bi .int (.cons (.var 2) .nil)) (.bi .len (.cons (.var 6) .nil))))) (.cons (.asg (.var 4) (.bin .mod (.bi .int (.cons (.bin .add (.bin .mul (.var 3) (.bin .add (.bin .mul (.cst (.int 2)) (.var 2)) (.cst (.int 3)))) (.var 7)) .nil)) (.cst (.int 2147483647)))) (.cons (.asg (.var 4) (.bin .mod (.bi .int (.cons (.bin .add (.bin .add (.bin .mul (.var 4) (.var 4)) (.bin .mul (.cst (.int 69621)) (.var 2))) (.ix (.var 0) (.cst (.str [115, 101, 101, 100])))) .nil)) (.cst (.int 2147483629)))) (.cons (.ret (.bin .mod (.bin .fdiv (.bin .mod (.bi .int (.cons (.bin .add (.bin .mul (.var 4) (.cst (.int 48271))) (.var 2)) .nil)) (.cst (.int 2147483647))) (.cst (.int 11))) (.var 1))) .nil))))))))
def f31 (g h : Nat → Nat) : Fn := ⟨2, 8, b31 g h⟩
/-- _law_of(m, some): 0:m 1:some -/
def b32 (g h : Nat → Nat) : T := (.cons (.ret (.ix (.var 1) (.call (g 31) (.cons (.var 0) (.cons (.bi .len (.cons (.var 1) .nil)) .nil))))) .nil)
def f32 (g h : Nat → Nat) : Fn := ⟨2, 2, b32 g h⟩
/-- _law_like(told, due): 0:told 1:due -/
def b33 (g h : Nat → Nat) : T := (.cons (.ret (.and (.cmp .eq (.var 0) (.var 1)) (.cmp .eq (.bi .repr (.cons (.var 0) .nil)) (.bi .repr (.cons (.var 1) .nil))))) .nil)
def f33 (g h : Nat → Nat) : Fn := ⟨2, 2, b33 g h⟩
/-- _law_subsets(places_so): 0:places_so 1:found 2:place_so 3:one -/
def b34 (g h : Nat → Nat) : T := (.cons (.asg (.var 1) (.lst (.cons (.tup .nil) .nil))) (.cons (.for_ (.var 2) (.var 0) (.cons (.asg (.var 1) (.bin .add (.var 1) (.lc [3] (.bin .add (.var 3) (.tup (.cons (.var 2) .nil))) (.var 3) (.var 1) .nil))) .nil)) (.cons (.ret (.var 1)) .nil)))
def f34 (g h : Nat → Nat) : Fn := ⟨1, 4, b34 g h⟩
/-- _law_lies(near_so, far_so): 0:near_so 1:far_so 2:one -/
def b35 (g h : Nat → Nat) : T := (.cons (.ret (.cmp .eq (.lc [2] (.cst (.int 1)) (.var 2) (.var 0) (.cons (.cmp .nmem (.var 2) (.var 1)) .nil)) (.lst .nil))) .nil)
def f35 (g h : Nat → Nat) : Fn := ⟨2, 3, b35 g h⟩
/-- _law_greatest(lots_so): 0:lots_so 1:found! 2:one 3:two -/
def b36 (g h : Nat → Nat) : T := (.cons (.asgO 1 (.lst .nil)) (.cons (.for_ (.var 2) (.srtS (.var 0)) (.cons (.ifs (.cmp .eq (.lc [3] (.cst (.int 1)) (.var 3) (.var 0) (.cons (.and (.cmp .ne (.var 2) (.var 3)) (.call (g 35) (.cons (.var 2) (.cons (.var 3) .nil)))) .nil)) (.lst .nil)) (.cons (.app 1 (.var 2)) .nil) .nil) .nil)) (.cons (.ret (.bi .tuple (.cons (.var 1) .nil))) .nil)))
def f36 (g h : Nat → Nat) : Fn := ⟨1, 4, b36 g h⟩
/-- _law_faces(complex_so): 0:complex_so 1:found! 2:facet_so 3:one -/
def b37 (g h : Nat → Nat) : T := (.cons (.asgO 1 (.dsp .nil)) (.cons (.for_ (.var 2) (.ix (.var 0) (.cst (.int 1))) (.cons (.for_ (.var 3) (.call (g 34) (.cons (.var 2) .nil)) (.cons (.setI 1 (.var 3) (.cst (.bl true))) .nil)) .nil)) (.cons (.ret (.bi .sorted (.cons (.var 1) .nil))) .nil)))
def f37 (g h : Nat → Nat) : Fn := ⟨1, 4, b37 g h⟩
/-- _law_some_complex(m, most_so): 0:m 1:most_so 2:width 3:lots_so! 4:again 5:k -/
def b38 (g h : Nat → Nat) : T := (.cons (.asg (.var 2) (.bin .add (.cst (.int 1)) (.call (g 31) (.cons (.var 0) (.cons (.var 1) .nil))))) (.cons (.ifs (.cmp .eq (.call (g 31) (.cons (.var 0) (.cons (.cst (.int 16)) .nil))) (.cst (.int 0))) (.cons (.ret (.tup (.cons (.var 2) (.cons (.call (g 32) (.cons (.var 0) (.cons (.lst (.cons (.tup .nil) (.cons (.tup (.cons (.tup .nil) .nil)) .nil))) .nil))) .nil)))) .nil) .nil) (.cons (.asgO 3 (.lst .nil)) (.cons (.for_ (.var 4) (.rng1 (.bin .add (.cst (.int 1)) (.call (g 31) (.cons (.var 0) (.cons (.cst (.int 6)) .nil))))) (.cons (.app 3 (.bi .tuple (.cons (.lc [5] (.var 5) (.var 5) (.rng1 (.var 2)) (.cons (.cmp .lt (.call (g 31) (.cons (.var 0) (.cons (.cst (.int 5)) .nil))) (.bin .add (.cst (.int 2)) (.call (g 31) (.cons (.var 0) (.cons (.cst (.int 2)) .nil))))) .nil)) .nil))) .nil)) (.cons (.fz 3) (.cons (.ret (.tup (.cons (.var 2) (.cons (.call (g 36) (.cons (.var 3) .nil)) .nil)))) .nil))))))
def f38 (g h : Nat → Nat) : Fn := ⟨2, 6, b38 g h⟩
/-- _law_one_less(complex_so): 0:complex_so 1:found! 2:one 3:often 4:two -/
def b39 (g h : Nat → Nat) : T := (.cons (.asgO 1 (.lst .nil)) (.cons (.for_ (.var 2) (.call (g 37) (.cons (.var 0) .nil)) (.cons (.asg (.var 3) (.bi .len (.cons (.lc [4] (.cst (.int 1)) (.var 4) (.ix (.var 0) (.cst (.int 1))) (.cons (.and (.cmp .eq (.bi .len (.cons (.var 4) .nil)) (.bin .add (.bi .len (.cons (.var 2) .nil)) (.cst (.int 1)))) (.call (g 35) (.cons (.var 2) (.cons (.var 4) .nil)))) .nil)) .nil))) (.cons (.ifs (.cmp .gt (.var 3) (.cst (.int 0))) (.cons (.app 1 (.tup (.cons (.var 2) (.cons (.var 3) .nil)))) .nil) .nil) .nil))) (.cons (.ret (.bi .tuple (.cons (.var 1) .nil))) .nil)))
def f39 (g h : Nat → Nat) : Fn := ⟨1, 5, b39 g h⟩
/-- _law_parts(complex_so): 0:complex_so 1:faces_so 2:left_so 3:found! 4:here 5:again 6:k 7:j -/
def b40 (g h : Nat → Nat) : T := (.cons (.asg (.var 1) (.call (g 37) (.cons (.var 0) .nil))) (.cons (.par (.cons (.var 2) (.cons (.var 3) .nil)) (.cons (.lc [6] (.var 6) (.var 6) (.rng1 (.ix (.var 0) (.cst (.int 0)))) (.cons (.cmp .mem (.tup (.cons (.var 6) .nil)) (.var 1)) .nil)) (.cons (.frs (.lst .nil)) .nil))) (.cons (.whl (.cmp .ne (.var 2) (.lst .nil)) (.cons (.asg (.var 4) (.lst (.cons (.ix (.var 2) (.cst (.int 0))) .nil))) (.cons (.for_ (.var 5) (.var 2) (.cons (.asg (.var 4) (.bin .add (.var 4) (.lc [6] (.var 6) (.var 6) (.var 2) (.cons (.and (.cmp .nmem (.var 6) (.var 4)) (.cmp .ne (.lc [7] (.cst (.int 1)) (.var 7) (.var 4) (.cons (.cmp .mem (.bi .tuple (.cons (.bi .sorted (.cons (.tup (.cons (.var 7) (.cons (.var 6) .nil))) .nil)) .nil)) (.var 1)) .nil)) (.lst .nil))) .nil)))) .nil)) (.cons (.app 3 (.bi .tuple (.cons (.bi .sorted (.cons (.var 4) .nil)) .nil))) (.cons (.asg (.var 2) (.lc [6] (.var 6) (.var 6) (.var 2) (.cons (.cmp .nmem (.var 6) (.var 4)) .nil))) .nil))))) (.cons (.ret (.bi .tuple (.cons (.bi .sorted (.cons (.var 3) .nil)) .nil))) .nil))))
def f40 (g h : Nat → Nat) : Fn := ⟨1, 8, b40 g h⟩
/-- _law_misses(complex_so): 0:complex_so 1:faces_so 2:found 3:one 4:two -/
def b41 (g h : Nat → Nat) : T := (.cons (.asg (.var 1) (.call (g 37) (.cons (.var 0) .nil))) (.cons (.asg (.var 2) (.lc [3] (.var 3) (.var 3) (.call (g 34) (.cons (.bi .tuple (.cons (.rng1 (.ix (.var 0) (.cst (.int 0)))) .nil)) .nil)) (.cons (.cmp .nmem (.var 3) (.var 1)) .nil))) (.cons (.ret (.bi .tuple (.cons (.bi .sorted (.cons (.lc [3] (.var 3) (.var 3) (.var 2) (.cons (.cmp .eq (.lc [4] (.cst (.int 1)) (.var 4) (.var 2) (.cons (.and (.cmp .ne (.var 4) (.var 3)) (.call (g 35) (.cons (.var 4) (.cons (.var 3) .nil)))) .nil)) (.lst .nil)) .nil)) .nil)) .nil))) .nil)))
def f41 (g h : Nat → Nat) : Fn := ⟨1, 5, b41 g h⟩
/-- _law_right(complex_so): 0:complex_so 1:width 2:tips_so 3:misses_so 4:told 5:faces_so 6:one 7:k 8:rest 9:two -/
def b42 (g h : Nat → Nat) : T := (.cons (.asg (.var 1) (.ix (.var 0) (.cst (.int 0)))) (.cons (.asg (.var 2) (.lc [7] (.var 7) (.var 7) (.rng1 (.var 1)) (.cons (.and (.cmp .ne (.ix (.var 0) (.cst (.int 1))) (.tup .nil)) (.cmp .eq (.lc [6] (.cst (.int 1)) (.var 6) (.ix (.var 0) (.cst (.int 1))) (.cons (.cmp .nmem (.var 7) (.var 6)) .nil)) (.lst .nil))) .nil))) (.cons (.asg (.var 3) (.call (g 41) (.cons (.var 0) .nil))) (.cons (.asg (.var 4) (.lst (.cons (.callK (g 18) .nil (.cons (.var 0) .nil) [[98, 111, 100, 121]] [0]) (.cons (.callK (g 20) .nil (.cons (.var 0) .nil) [[98, 111, 100, 121]] [0]) (.cons (.callK (g 21) .nil (.cons (.var 0) .nil) [[98, 111, 100, 121]] [0]) (.cons (.callK (g 23) .nil (.cons (.var 0) .nil) [[98, 111, 100, 121]] [0]) .nil)))))) (.cons (.ifs (.nt (.call (g 33) (.cons (.var 4) (.cons (.lst (.cons (.call (g 39) (.cons (.var 0) .nil)) (.cons (.call (g 40) (.cons (.var 0) .nil)) (.cons (.bi .tuple (.cons (.var 2) .nil)) (.cons (.var 3) .nil))))) .nil)))) (.cons (.ret (.cst (.bl false))) .nil) .nil) (.cons (.asg (.var 5) (.call (g 37) (.cons (.var 0) .nil))) (.cons (.for_ (.var 6) (.call (g 34) (.cons (.bi .tuple (.cons (.rng1 (.var 1)) .nil)) .nil)) (.cons (.ifs (.cmp .ne (.cmp .mem (.var 6) (.var 5)) (.cmp .eq (.lc [9] (.cst (.int 1)) (.var 9) (.var 3) (.cons (.call (g 35) (.cons (.var 9) (.cons (.var 6) .nil))) .nil)) (.lst .nil))) (.cons (.ret (.cst (.bl false))) .nil) .nil) .nil)) (.cons (.for_ (.var 7) (.var 2) (.cons (.asg (.var 8) (.call (g 17) (.cons (.var 0) (.cons (.tup (.cons (.var 7) .nil)) .nil)))) (.cons (.ifs (.nt (.call (g 33) (.cons (.tup (.cons (.var 1) (.cons (.bi .tuple (.cons (.bi .sorted (.cons (.lc [6] (.bi .tuple (.cons (.bi .sorted (.cons (.bin .add (.var 6) (.tup (.cons (.var 7) .nil))) .nil)) .nil)) (.var 6) (.ix (.var 8) (.cst (.int 1))) .nil) .nil)) .nil)) .nil))) (.cons (.var 0) .nil)))) (.cons (.ret (.cst (.bl false))) .nil) .nil) .nil))) (.cons (.ret (.cst (.bl true))) .nil)))))))))
def f42 (g h : Nat → Nat) : Fn := ⟨1, 10, b42 g h⟩
/-- law(script): 0:script 1:turn 2:told 3:due! 4:sided_so 5:m 6:some 7:four 8:six 9:complex_so 10:other_so 11:one 12:call -/
def b43 (g h : Nat → Nat) : T := (.cons (.for_ (.var 1) (.rng1 (.bin .add (.cst (.int 1)) (.bi .min2 (.cons (.cst (.int 2)) (.cons (.bi .len (.cons (.var 0) .nil)) .nil))))) (.cons (.asg (.var 5) (.call (g 30) (.cons (.var 0) (.cons (.var 1) .nil)))) (.cons (.par (.cons (.var 9) (.cons (.var 10) .nil)) (.cons (.call (g 38) (.cons (.var 5) (.cons (.call (g 32) (.cons (.var 5) (.cons (.lst (.cons (.cst (.int 5)) (.cons (.cst (.int 6)) (.cons (.cst (.int 7)) .nil)))) .nil))) .nil))) (.cons (.call (g 38) (.cons (.var 5) (.cons (.cst (.int 3)) .nil))) .nil))) (.cons (.asg (.var 6) (.bin .add (.lst (.cons (.var 9) (.cons (.call (g 29) (.cons (.var 10) .nil)) (.cons (.call (g 29) (.cons (.call (g 29) (.cons (.var 10) .nil)) .nil)) .nil)))) (.ife (.cmp .lt (.ix (.var 9) (.cst (.int 0))) (.cst (.int 5))) (.lst (.cons (.call (g 28) (.cons (.var 9) (.cons (.var 10) .nil))) .nil)) (.lst .nil)))) (.cons (.ifs (.cmp .ne (.lc [11] (.cst (.int 1)) (.var 11) (.var 6) (.cons (.nt (.call (g 42) (.cons (.var 11) .nil))) .nil)) (.lst .nil)) (.cons (.ret (.cst (.bl false))) .nil) .nil) (.cons (.ifs (.and (.cmp .nmem (.ix (.var 9) (.cst (.int 0))) (.call (g 21) (.cons (.call (g 29) (.cons (.var 9) .nil)) .nil))) (.cmp .ne (.ix (.var 9) (.cst (.int 1))) (.tup .nil))) (.cons (.ret (.cst (.bl false))) .nil) .nil) .nil)))))) (.cons (.par (.cons (.var 7) (.cons (.var 8) .nil)) (.cons (.tup (.cons (.cst (.int 4)) (.cons (.tup (.cons (.tup (.cons (.cst (.int 0)) (.cons (.cst (.int 1)) .nil))) (.cons (.tup (.cons (.cst (.int 0)) (.cons (.cst (.int 3)) .nil))) (.cons (.tup (.cons (.cst (.int 1)) (.cons (.cst (.int 2)) .nil))) (.cons (.tup (.cons (.cst (.int 2)) (.cons (.cst (.int 3)) .nil))) .nil))))) .nil))) (.cons (.tup (.cons (.cst (.int 6)) (.cons (.tup (.cons (.tup (.cons (.cst (.int 0)) (.cons (.cst (.int 1)) (.cons (.cst (.int 2)) .nil)))) (.cons (.tup (.cons (.cst (.int 3)) (.cons (.cst (.int 4)) .nil))) .nil))) .nil))) .nil))) (.cons (.asg (.var 2) (.lc [11] (.lc [12] (.callV (.var 12) (.cons (.var 11) .nil)) (.var 12) (.tup (.cons (.fnv (g 18)) (.cons (.fnv (g 20)) (.cons (.fnv (g 21)) (.cons (.fnv (g 23)) .nil))))) .nil) (.var 11) (.tup (.cons (.tup (.cons (.cst (.int 2)) (.cons (.tup .nil) .nil))) (.cons (.tup (.cons (.cst (.int 2)) (.cons (.tup (.cons (.tup .nil) .nil)) .nil))) (.cons (.tup (.cons (.cst (.int 3)) (.cons (.tup (.cons (.tup (.cons (.cst (.int 0)) (.cons (.cst (.int 1)) (.cons (.cst (.int 2)) .nil)))) .nil)) .nil))) (.cons (.var 7) (.cons (.var 8) .nil)))))) .nil)) (.cons (.asgO 3 (.lst (.cons (.lst (.cons (.tup .nil) (.cons (.tup .nil) (.cons (.tup .nil) (.cons (.tup (.cons (.tup .nil) .nil)) .nil))))) (.cons (.lst (.cons (.tup .nil) (.cons (.tup .nil) (.cons (.tup .nil) (.cons (.tup (.cons (.tup (.cons (.cst (.int 0)) .nil)) (.cons (.tup (.cons (.cst (.int 1)) .nil)) .nil))) .nil))))) (.cons (.lst (.cons (.tup (.cons (.tup (.cons (.tup (.cons (.cst (.int 0)) (.cons (.cst (.int 1)) .nil))) (.cons (.cst (.int 1)) .nil))) (.cons (.tup (.cons (.tup (.cons (.cst (.int 0)) (.cons (.cst (.int 2)) .nil))) (.cons (.cst (.int 1)) .nil))) (.cons (.tup (.cons (.tup (.cons (.cst (.int 1)) (.cons (.cst (.int 2)) .nil))) (.cons (.cst (.int 1)) .nil))) .nil)))) (.cons (.tup (.cons (.tup (.cons (.cst (.int 0)) (.cons (.cst (.int 1)) (.cons (.cst (.int 2)) .nil)))) .nil)) (.cons (.tup (.cons (.cst (.int 0)) (.cons (.cst (.int 1)) (.cons (.cst (.int 2)) .nil)))) (.cons (.tup .nil) .nil))))) .nil))))) (.cons (.app 3 (.lst (.cons (.tup (.cons (.tup (.cons (.tup (.cons (.cst (.int 0)) .nil)) (.cons (.cst (.int 2)) .nil))) (.cons (.tup (.cons (.tup (.cons (.cst (.int 1)) .nil)) (.cons (.cst (.int 2)) .nil))) (.cons (.tup (.cons (.tup (.cons (.cst (.int 2)) .nil)) (.cons (.cst (.int 2)) .nil))) (.cons (.tup (.cons (.tup (.cons (.cst (.int 3)) .nil)) (.cons (.cst (.int 2)) .nil))) .nil))))) (.cons (.tup (.cons (.tup (.cons (.cst (.int 0)) (.cons (.cst (.int 1)) (.cons (.cst (.int 2)) (.cons (.cst (.int 3)) .nil))))) .nil)) (.cons (.tup .nil) (.cons (.tup (.cons (.tup (.cons (.cst (.int 0)) (.cons (.cst (.int 2)) .nil))) (.cons (.tup (.cons (.cst (.int 1)) (.cons (.cst (.int 3)) .nil))) .nil))) .nil)))))) (.cons (.asg (.var 4) (.tup (.cons (.tup (.cons (.tup (.cons (.cst (.int 0)) (.cons (.cst (.int 1)) .nil))) (.cons (.cst (.int 1)) .nil))) (.cons (.tup (.cons (.tup (.cons (.cst (.int 0)) (.cons (.cst (.int 2)) .nil))) (.cons (.cst (.int 1)) .nil))) (.cons (.tup (.cons (.tup (.cons (.cst (.int 1)) (.cons (.cst (.int 2)) .nil))) (.cons (.cst (.int 1)) .nil))) (.cons (.tup (.cons (.tup (.cons (.cst (.int 3)) .nil)) (.cons (.cst (.int 1)) .nil))) (.cons (.tup (.cons (.tup (.cons (.cst (.int 4)) .nil)) (.cons (.cst (.int 1)) .nil))) .nil))))))) (.cons (.app 3 (.lst (.cons (.var 4) (.cons (.tup (.cons (.tup (.cons (.cst (.int 0)) (.cons (.cst (.int 1)) (.cons (.cst (.int 2)) .nil)))) (.cons (.tup (.cons (.cst (.int 3)) (.cons (.cst (.int 4)) .nil))) .nil))) (.cons (.tup .nil) (.cons (.tup (.cons (.tup (.cons (.cst (.int 0)) (.cons (.cst (.int 3)) .nil))) (.cons (.tup (.cons (.cst (.int 0)) (.cons (.cst (.int 4)) .nil))) (.cons (.tup (.cons (.cst (.int 1)) (.cons (.cst (.int 3)) .nil))) (.cons (.tup (.cons (.cst (.int 1)) (.cons (.cst (.int 4)) .nil))) (.cons (.tup (.cons (.cst (.int 2)) (.cons (.cst (.int 3)) .nil))) (.cons (.tup (.cons (.cst (.int 2)) (.cons (.cst (.int 4)) .nil))) (.cons (.tup (.cons (.cst (.int 5)) .nil)) .nil)))))))) .nil)))))) (.cons (.fz 3) (.cons (.ret (.call (g 33) (.cons (.var 2) (.cons (.var 3) .nil)))) .nil)))))))))
def f43 (g h : Nat → Nat) : Fn := ⟨1, 13, b43 g h⟩
end TL
end

section
set_option autoImplicit false
set_option linter.all false
set_option maxRecDepth 100000
/-! Pl3: what the defs do, one by one. -/
namespace Pl
open Mini
/-- a def, run over what calls give -/
def R (C : Cfg) (F : Fn) (xs : List D) (st : St) : Option (D × St) := fin (evSs C F.body (startE F xs) st)
theorem call_R {P : Prog} {d k : Nat} {F : Fn} {xs : List D} {st : St} (h : P.fns[k]? = some F) (hl : xs.length = F.np) : callP P (d + 1) k xs st = R ⟨P.consts, callP P d⟩ F xs st := call_eq h hl
theorem lim_ok {n : Nat} (h : n ≤ 10000000) : n ≤ LIM := Nat.le_trans h (by decide)
@[simp] theorem guard_some (xs : List D) (st : St) : guardLen (some (xs, st)) = if xs.length ≤ LIM then some (.lst xs, st) else none := rfl
theorem lc_all {α : Type} (en : α → D) {asg : D → Option Env} {test : Env → St → Option (Bool × St)} {elt : Env → St → Option (List D × St)} (f : α → D) {st : St} {l : List α} (hz : l.length ≤ 10000000)
    (h : ∀ x ∈ l, ∃ env, asg (en x) = some env ∧ test env st = some (true, st) ∧ elt env st = some ([f x], st)) : guardLen (lcGo asg test elt (l.map en) st) = some (.lst (l.map f), st) := by
  rw [lcGo_all en f l h]
  simp [guardLen, lim_ok hz]
theorem lc_map {α : Type} (en : α → D) {asg : D → Option Env} {test : Env → St → Option (Bool × St)} {elt : Env → St → Option (List D × St)} (p : α → Bool) (f : α → D) {st : St} {l : List α} (hz : l.length ≤ 10000000)
    (h : ∀ x ∈ l, ∃ env, asg (en x) = some env ∧ test env st = some (p x, st) ∧ (p x = true → elt env st = some ([f x], st))) : guardLen (lcGo asg test elt (l.map en) st) = some (.lst ((l.filter p).map f), st) := by
  rw [lcGo_map en p f l h]
  have := List.length_filter_le p l
  simp [guardLen, lim_ok (show (l.filter p).length ≤ 10000000 by omega)]
theorem for_fin {α σ : Type} (en : α → D) (Q : σ → Env → St → Prop) (step : σ → α → σ) {turn : D → Env → St → Option (Fl × Env × St)} {l : List α} (s : σ) {env : Env} {st : St} {k : Fl × Env × St → Option (Fl × Env × St)} {r : Option (D × St)} (h0 : Q s env st)
    (ht : ∀ s x env st, x ∈ l → Q s env st → ∃ env' st', turn (en x) env st = some (.nx, env', st') ∧ Q (step s x) env' st') (hk : ∀ env' st', Q (l.foldl step s) env' st' → fin (k (.nx, env', st')) = r) : fin ((forGo turn (l.map en) env st).bind k) = r := by
  obtain ⟨env', st', e, q⟩ := forGo_rel en Q step l s env st h0 ht
  rw [e]
  exact hk env' st' q
theorem for_ex {α σ : Type} (en : α → D) (Q : σ → Env → St → Prop) (step : σ → α → σ) {turn : D → Env → St → Option (Fl × Env × St)} {l : List α} (s : σ) {env : Env} {st : St} {k : Fl × Env × St → Option (Fl × Env × St)} {Z : Env → St → Prop} (h0 : Q s env st)
    (ht : ∀ s x env st, x ∈ l → Q s env st → ∃ env' st', turn (en x) env st = some (.nx, env', st') ∧ Q (step s x) env' st') (hk : ∀ env' st', Q (l.foldl step s) env' st' → ∃ env2 st2, k (.nx, env', st') = some (.nx, env2, st2) ∧ Z env2 st2) :
    ∃ env2 st2, (forGo turn (l.map en) env st).bind k = some (.nx, env2, st2) ∧ Z env2 st2 := by
  obtain ⟨env', st', e, q⟩ := forGo_rel en Q step l s env st h0 ht
  rw [e]
  exact hk env' st' q
theorem inv_fin {α : Type} (en : α → D) (I : List α → Env → St → Prop) {turn : D → Env → St → Option (Fl × Env × St)} {l : List α} {env : Env} {st : St} {k : Fl × Env × St → Option (Fl × Env × St)} {r : Option (D × St)} (h0 : I l env st)
    (ht : ∀ x rem env st, I (x :: rem) env st → ∃ env' st', turn (en x) env st = some (.nx, env', st') ∧ I rem env' st') (hk : ∀ env' st', I [] env' st' → fin (k (.nx, env', st')) = r) : fin ((forGo turn (l.map en) env st).bind k) = r := by
  obtain ⟨env', st', e, q⟩ := forGo_inv en I l env st h0 ht
  rw [e]
  exact hk env' st' q
theorem inv_ex {α : Type} (en : α → D) (I : List α → Env → St → Prop) {turn : D → Env → St → Option (Fl × Env × St)} {l : List α} {env : Env} {st : St} {k : Fl × Env × St → Option (Fl × Env × St)} {Z : Env → St → Prop} (h0 : I l env st)
    (ht : ∀ x rem env st, I (x :: rem) env st → ∃ env' st', turn (en x) env st = some (.nx, env', st') ∧ I rem env' st') (hk : ∀ env' st', I [] env' st' → ∃ env2 st2, k (.nx, env', st') = some (.nx, env2, st2) ∧ Z env2 st2) :
    ∃ env2 st2, (forGo turn (l.map en) env st).bind k = some (.nx, env2, st2) ∧ Z env2 st2 := by
  obtain ⟨env', st', e, q⟩ := forGo_inv en I l env st h0 ht
  rw [e]
  exact hk env' st' q
theorem fin_step {C : Cfg} {s r : T} {env env' : Env} {st st' : St} {res : Option (D × St)} (h : evS C s env st = some (.nx, env', st')) (k : fin (evSs C r env' st') = res) : fin (evSs C (.cons s r) env st) = res := by
  rw [ss_cons, h]
  exact k
theorem fin_stepZ {C : Cfg} {s r : T} {env env' : Env} {st st' : St} {Z : D × St → Prop} (h : evS C s env st = some (.nx, env', st')) (k : ∃ x, fin (evSs C r env' st') = some x ∧ Z x) : ∃ x, fin (evSs C (.cons s r) env st) = some x ∧ Z x := by
  rw [ss_cons, h]
  exact k
theorem for_finZ {α σ : Type} (en : α → D) (Q : σ → Env → St → Prop) (step : σ → α → σ) {turn : D → Env → St → Option (Fl × Env × St)} {l : List α} (s : σ) {env : Env} {st : St} {k : Fl × Env × St → Option (Fl × Env × St)} {Z : D × St → Prop} (h0 : Q s env st)
    (ht : ∀ s x env st, x ∈ l → Q s env st → ∃ env' st', turn (en x) env st = some (.nx, env', st') ∧ Q (step s x) env' st') (hk : ∀ env' st', Q (l.foldl step s) env' st' → ∃ x, fin (k (.nx, env', st')) = some x ∧ Z x) : ∃ x, fin ((forGo turn (l.map en) env st).bind k) = some x ∧ Z x := by
  obtain ⟨env', st', e, q⟩ := forGo_rel en Q step l s env st h0 ht
  rw [e]
  exact hk env' st' q
theorem inv_finZ {α : Type} (en : α → D) (I : List α → Env → St → Prop) {turn : D → Env → St → Option (Fl × Env × St)} {l : List α} {env : Env} {st : St} {k : Fl × Env × St → Option (Fl × Env × St)} {Z : D × St → Prop} (h0 : I l env st)
    (ht : ∀ x rem env st, I (x :: rem) env st → ∃ env' st', turn (en x) env st = some (.nx, env', st') ∧ I rem env' st') (hk : ∀ env' st', I [] env' st' → ∃ x, fin (k (.nx, env', st')) = some x ∧ Z x) : ∃ x, fin ((forGo turn (l.map en) env st).bind k) = some x ∧ Z x := by
  obtain ⟨env', st', e, q⟩ := forGo_inv en I l env st h0 ht
  rw [e]
  exact hk env' st' q
@[simp] theorem asg_var (i : Nat) (d : D) (env : Env) : asgT (.var i) d env = setV env i (.sh d) := rfl
@[simp] theorem one_some (d : D) (st : St) : one (some (d, st)) = some ([d], st) := rfl
@[simp] theorem slotB_sh (d : D) : slotB (some (.sh d)) = some d := rfl
@[simp] theorem slotB_ow (d : D) : slotB (some (.ow d)) = some d := rfl
@[simp] theorem slotV_sh (d : D) : slotV (some (.sh d)) = some d := rfl
@[simp] theorem tru_bl (b : Bool) : tru (.bl b) = some b := rfl
@[simp] theorem shallow_int (i : Int) : shallow (.int i) = true := by simp [shallow, plain, depth]
@[simp] theorem shallow_bl (b : Bool) : shallow (.bl b) = true := by simp [shallow, plain, depth]
theorem ord_int (i j : Int) : ordable (.int i) (.int j) = true := by simp [ordable, plain, alike, isNon, depth]
@[simp] theorem cmp_lt (i j : Int) : cmpD .lt (.int i) (.int j) = some (decide (i < j)) := by simp [cmpD, ltC, ord_int, ltD]
@[simp] theorem cmp_gt (i j : Int) : cmpD .gt (.int i) (.int j) = some (decide (j < i)) := by simp [cmpD, gtC, ord_int, ltD]
@[simp] theorem cmp_le (i j : Int) : cmpD .le (.int i) (.int j) = some (decide (i ≤ j)) := by simp [cmpD, leC, ord_int, ltD]; by_cases h : i ≤ j <;> simp [h] <;> omega
@[simp] theorem cmp_ge (i j : Int) : cmpD .ge (.int i) (.int j) = some (decide (j ≤ i)) := by simp [cmpD, geC, ord_int, ltD]; by_cases h : j ≤ i <;> simp [h] <;> omega
@[simp] theorem cmp_eq (i j : Int) : cmpD .eq (.int i) (.int j) = some (decide (i = j)) := by simp [cmpD, eqC, eqD]; by_cases h : i = j <;> simp [h]
@[simp] theorem cmp_ne (i j : Int) : cmpD .ne (.int i) (.int j) = some (decide (i ≠ j)) := by simp [cmpD, eqC, eqD]; by_cases h : i = j <;> simp [h]
@[simp] theorem cmp_mem (a b : D) : cmpD .mem a b = memD a b := rfl
@[simp] theorem cmp_nmem (a b : D) : cmpD .nmem a b = (memD a b).map (!·) := rfl
@[simp] theorem cmp_is_non (a : D) : cmpD .is a .non = some (isNon a) := rfl
@[simp] theorem cmp_isn_non (a : D) : cmpD .isn a .non = some (!isNon a) := rfl
@[simp] theorem bin_add (i j : Int) : binD .add (.int i) (.int j) = some (.int (i + j)) := rfl
@[simp] theorem bin_sub (i j : Int) : binD .sub (.int i) (.int j) = some (.int (i - j)) := rfl
theorem bin_addT (xs ys : List D) (h : xs.length + ys.length ≤ 10000000) : binD .add (.tup xs) (.tup ys) = some (.tup (xs ++ ys)) := by
  have : xs.length + ys.length ≤ LIM := lim_ok h
  simp [binD, addD, this]
theorem bin_addL (xs ys : List D) (h : xs.length + ys.length ≤ 10000000) : binD .add (.lst xs) (.lst ys) = some (.lst (xs ++ ys)) := by
  have : xs.length + ys.length ≤ LIM := lim_ok h
  simp [binD, addD, this]
@[simp] theorem bi_isT_lD (l : List Nat) : biD .isTuple [lD l] = some (.bl true) := rfl
@[simp] theorem bi_isT_LT (l : List (List Nat)) : biD .isTuple [LT l] = some (.bl true) := rfl
@[simp] theorem bi_isT_cD (n : Nat) (l : List (List Nat)) : biD .isTuple [cD n l] = some (.bl true) := rfl
@[simp] theorem bi_len_cD (n : Nat) (l : List (List Nat)) : biD .len [cD n l] = some (.int 2) := rfl
@[simp] theorem ix_cD0 (st : St) (n : Nat) (F : List (List Nat)) : ixD st (cD n F) (.int 0) = some (nD n) := rfl
@[simp] theorem ix_cD1 (st : St) (n : Nat) (F : List (List Nat)) : ixD st (cD n F) (.int 1) = some (LT F) := rfl
@[simp] theorem bnd_non : bndD (.cst .non) .non = some .non := rfl
@[simp] theorem bnd_int (i j : Int) : bndD (.cst (.int i)) (.int j) = some (.int j) := rfl
@[simp] theorem bnd_var (i : Nat) (j : Int) : bndD (.var i) (.int j) = some (.int j) := rfl
theorem cut_drop (xs : List D) (a : Nat) : cutL xs a xs.length = xs.drop a := by
  unfold cutL
  rw [List.take_of_length_le]
  rw [List.length_drop]
  exact Nat.le_refl _
theorem cut_take (xs : List D) (b : Nat) : cutL xs 0 b = xs.take b := by simp [cutL]
@[simp] theorem slc_drop (l : List Nat) : slcD (lD l) (.int 1) .non = some (lD l.tail) := by
  have : cutL (l.map nD) (min 1 l.length) l.length = (l.map nD).drop 1 := by
    have h := cut_drop (l.map nD) (min 1 l.length)
    rw [List.length_map] at h
    rw [h]
    cases l with
    | nil => rfl
    | cons x l => simp
  simp [slcD, lD, clip, this, List.map_drop]
def pD (p : Nat × Nat) : D := .tup [nD p.1, nD p.2]
theorem zip_map (l m : List Nat) : List.zipWith (fun x y => D.tup [x, y]) (l.map nD) (m.map nD) = (l.zip m).map pD := by
  rw [List.zipWith_map, List.zip_eq_zipWith, List.map_zipWith]
  rfl
@[simp] theorem zipX_lD (l m : List Nat) (st : St) : zipX (lD l) (lD m) st = some (.lst ((l.zip m).map pD), st) := by
  simp only [zipX, lD, zip_map]
@[simp] theorem seq_lst (xs : List D) : seqD (.lst xs) = some xs := rfl
/-- a lot on n places -/
structure Lot (n : Nat) (l : List Nat) : Prop where
  asc : l.Pairwise (· < ·)
  lt : ∀ x ∈ l, x < n
def subB (a b : List Nat) : Bool := a.all fun x => decide (x ∈ b)
/-! what calls are asked to give -/
def SInt (call : CallF) (k : Nat) : Prop := ∀ (i : Int) st, call k [.int i] st = some (.bl true, st)
def SFrom (call : CallF) (k : Nat) : Prop := ∀ (i l m : Int) st, call k [.int i, .int l, .int m] st = some (.bl (decide (l ≤ i) && decide (i ≤ m)), st)
def SLot (call : CallF) (k : Nat) : Prop := ∀ n l st, Lot n l → l.length ≤ 100000 → call k [nD n, lD l] st = some (.bl true, st)
def SNLot (call : CallF) (k : Nat) : Prop := ∀ n l st, Lot n l → l.length ≤ 100000 → call k [nD n, lD l] st = some (lD l, st)
def SLies (call : CallF) (k : Nat) : Prop := ∀ a b st, a.length ≤ 100000 → call k [lD a, lD b] st = some (.bl (subB a b), st)
section
variable {C : Cfg} {g h : Nat → Nat} {st : St}
theorem r0 (i : Int) : R C (TL.f0 g h) [.int i] st = some (.bl true, st) := by simp [R, TL.f0, TL.b0, startE, s_ret, biD]
theorem r1 (h0 : SInt C.call (g 0)) (i l m : Int) : R C (TL.f1 g h) [.int i, .int l, .int m] st = some (.bl (decide (l ≤ i) && decide (i ≤ m)), st) := by
  simp [R, TL.f1, TL.b1, startE, s_ret, h0 i]
  by_cases q : l ≤ i <;> simp [q]
theorem r4 (a b : List Nat) (hl : a.length ≤ 100000) : R C (TL.f4 g h) [lD a, lD b] st = some (.bl (subB a b), st) := by
  simp [R, TL.f4, TL.b4, startE]
  rw [lc_all nD (fun x => .bl (decide (x ∈ b))) (by omega)]
  · simp [subB]
  · intro x hx
    exact ⟨_, rfl, by simp, by simp⟩
theorem pairs_lt : ∀ l : List Nat, l.Pairwise (· < ·) → (l.zip l.tail).all (fun p => decide (p.1 < p.2)) = true
  | [], _ => rfl
  | [x], _ => rfl
  | x :: y :: r, h => by
    have h1 := List.pairwise_cons.mp h
    have ih := pairs_lt (y :: r) h1.2
    simp only [List.tail_cons] at ih ⊢
    rw [List.zip_cons_cons, List.all_cons, ih, Bool.and_true, decide_eq_true_eq]
    exact h1.1 y (List.mem_cons_self ..)
theorem r2 (h1 : SFrom C.call (g 1)) (n : Nat) (l : List Nat) (hl : Lot n l) (hz : l.length ≤ 100000) : R C (TL.f2 g h) [nD n, lD l] st = some (.bl true, st) := by
  have e : (l.all fun x => decide (x < n)) = true := by simp; exact hl.lt
  simp [R, TL.f2, TL.b2, startE]
  rw [lc_all nD (fun x => .bl (decide (x < n))) (by omega)]
  · simp only [bi_all, e, Option.bind_some, Option.map_some, tru_bl, Bool.not_true, Bool.false_eq_true, if_false, then_nx, ss_nil, ss_cons]
    simp
    rw [lc_all pD (fun p => .bl (decide (p.1 < p.2))) (by simp; omega)]
    · simp [pairs_lt l hl.asc]
    · intro p hp
      exact ⟨_, rfl, by simp, by simp⟩
  · intro x hx
    refine ⟨_, rfl, by simp, ?_⟩
    simp [h1 x]
    omega
theorem r3 (h2 : SLot C.call (g 2)) (n : Nat) (l : List Nat) (hl : Lot n l) (hz : l.length ≤ 100000) : R C (TL.f3 g h) [nD n, lD l] st = some (lD l, st) := by
  simp [R, TL.f3, TL.b3, startE, h2 n l st hl hz]
end
end Pl
end

section
set_option autoImplicit false
set_option linter.all false
set_option maxRecDepth 100000
/-! Pl4: what is a complex. -/
namespace Pl
open Mini
/-- facets on n places -/
structure Cx (n : Nat) (F : List (List Nat)) : Prop where
  n1 : 1 ≤ n
  n10 : n ≤ 10
  lot : ∀ f ∈ F, Lot n f
  srt : Asc ltL F
  anti : ∀ f ∈ F, ∀ e ∈ F, subB f e = true → f = e
theorem subB_iff {a b : List Nat} : subB a b = true ↔ ∀ x ∈ a, x ∈ b := by simp [subB]
theorem len_sub {α : Type} [DecidableEq α] : ∀ {l m : List α}, l.Nodup → (∀ x ∈ l, x ∈ m) → l.length ≤ m.length
  | [], _, _, _ => Nat.zero_le _
  | a :: l, m, h, hs => by
    rw [List.nodup_cons] at h
    have ha := hs a (List.mem_cons_self ..)
    have ih := len_sub (m := m.erase a) h.2 fun x hx => by
      have hne : x ≠ a := fun z => h.1 (z ▸ hx)
      exact (List.mem_erase_of_ne hne).mpr (hs x (List.mem_cons_of_mem _ hx))
    rw [List.length_erase_of_mem ha] at ih
    have : 0 < m.length := List.length_pos_of_mem ha
    simp only [List.length_cons]
    omega
theorem asc_nodup {l : List Nat} (h : l.Pairwise (· < ·)) : l.Nodup := List.Pairwise.imp (fun h => Nat.ne_of_lt h) h
theorem Lot.len {n : Nat} {l : List Nat} (h : Lot n l) : l.length ≤ n := by
  have := len_sub (m := List.range n) (asc_nodup h.asc) fun x hx => List.mem_range.mpr (h.lt x hx)
  simpa using this
theorem Lot.sub {n : Nat} {l m : List Nat} (h : Lot n l) (s : m.Sublist l) : Lot n m := ⟨h.asc.sublist s, fun x hx => h.lt x (s.subset hx)⟩
theorem snoc_ind {α : Type} {Q : List α → Prop} (h0 : Q []) (h1 : ∀ l p, Q l → Q (l ++ [p])) (l : List α) : Q l := by
  have key : ∀ m : List α, Q m.reverse := by
    intro m
    induction m with
    | nil => exact h0
    | cons a m ih => rw [List.reverse_cons]; exact h1 _ _ ih
  have := key l.reverse
  rwa [List.reverse_reverse] at this
/-! ### lots in a lot -/
def subs (l : List Nat) : List (List Nat) := l.foldl (fun acc p => acc ++ acc.map (· ++ [p])) [[]]
theorem subs_snoc (l : List Nat) (p : Nat) : subs (l ++ [p]) = subs l ++ (subs l).map (· ++ [p]) := by simp [subs, List.foldl_append]
theorem subs_len (l : List Nat) : (subs l).length = 2 ^ l.length := by
  induction l using snoc_ind with
  | h0 => rfl
  | h1 l p ih => rw [subs_snoc]; simp [ih, Nat.pow_succ]; omega
theorem sub_one {p : Nat} : ∀ {b : List Nat}, b.Sublist [p] → b = [] ∨ b = [p]
  | [], _ => .inl rfl
  | [x], h => by
    cases h with
    | cons _ h => cases h
    | cons_cons _ _ => exact .inr rfl
  | x :: y :: b, h => by
    have := h.length_le
    simp at this
theorem subs_mem {l x : List Nat} : x ∈ subs l ↔ x.Sublist l := by
  induction l using snoc_ind generalizing x with
  | h0 => simp [subs]
  | h1 l p ih =>
    rw [subs_snoc, List.mem_append, List.mem_map, List.sublist_append_iff]
    constructor
    · rintro (h | ⟨y, h, rfl⟩)
      · exact ⟨x, [], by simp, ih.mp h, List.nil_sublist _⟩
      · exact ⟨y, [p], rfl, ih.mp h, List.Sublist.refl _⟩
    · rintro ⟨a, b, rfl, h1, h2⟩
      rcases sub_one h2 with rfl | rfl
      · left; rw [List.append_nil]; exact ih.mpr h1
      · right; exact ⟨a, ih.mpr h1, rfl⟩
/-- of ascending lots: lying in is being a part of -/
theorem sub_iff : ∀ {a b : List Nat}, a.Pairwise (· < ·) → b.Pairwise (· < ·) → (a.Sublist b ↔ ∀ x ∈ a, x ∈ b)
  | [], _, _, _ => by simp
  | x :: a, [], _, _ => ⟨fun h => (nomatch h), fun h => absurd (h x (List.mem_cons_self ..)) (by simp)⟩
  | x :: a, y :: b, ha, hb => by
    have ha' := List.pairwise_cons.mp ha
    have hb' := List.pairwise_cons.mp hb
    constructor
    · intro h z hz; exact h.subset hz
    · intro h
      by_cases e : x = y
      · subst e
        refine List.Sublist.cons₂ x ((sub_iff ha'.2 hb'.2).mpr fun z hz => ?_)
        rcases List.mem_cons.mp (h z (List.mem_cons_of_mem _ hz)) with rfl | q
        · exact absurd (ha'.1 z hz) (Nat.lt_irrefl _)
        · exact q
      · refine List.Sublist.cons y ((sub_iff ha hb'.2).mpr fun z hz => ?_)
        rcases List.mem_cons.mp (h z hz) with rfl | q
        · exfalso
          rcases List.mem_cons.mp (h x (List.mem_cons_self ..)) with q | q
          · exact e q
          · have h1 := hb'.1 x q
            rcases List.mem_cons.mp hz with z1 | z1
            · omega
            · have := ha'.1 z z1; omega
        · exact q
theorem lot_subs {n : Nat} {l : List Nat} (h : Lot n l) : l ∈ subs (List.range n) := subs_mem.mpr ((sub_iff h.asc (by exact List.pairwise_lt_range)).mpr fun x hx => List.mem_range.mpr (h.lt x hx))
theorem lots_len {n : Nat} {F : List (List Nat)} (h : ∀ f ∈ F, Lot n f) (nd : F.Nodup) : F.length ≤ 2 ^ n := by
  have := len_sub (m := subs (List.range n)) nd fun f hf => lot_subs (h f hf)
  rw [subs_len, List.length_range] at this
  exact this
theorem Cx.nd {n : Nat} {F : List (List Nat)} (c : Cx n F) : F.Nodup := c.srt.nodup ordL
theorem Cx.len {n : Nat} {F : List (List Nat)} (c : Cx n F) : F.length ≤ 1024 := by
  have := lots_len c.lot c.nd
  have h2 : 2 ^ n ≤ 2 ^ 10 := Nat.pow_le_pow_right (by decide) c.n10
  omega
/-! ### facets_fault, complex_fault, need_complex -/
def eD (p : Nat × List Nat) : D := .tup [nD p.1, lD p.2]
theorem enm_LT (F : List (List Nat)) (st : St) : enmX (LT F) st = some (.lst (((List.range F.length).zip F).map eD), st) := by
  simp only [enmX, LT, List.length_map]
  congr 2
  rw [List.zip_eq_zipWith, List.map_zipWith, List.zipWith_map_right]
  rfl
theorem alikes_nD : ∀ a b : List Nat, alikes (a.map nD) (b.map nD) = true
  | [], [] => rfl
  | [], _ :: _ => rfl
  | _ :: _, [] => rfl
  | x :: a, y :: b => by simp [alikes, alike, alikes_nD a b]
theorem ord_lD (a b : List Nat) : ordable (lD a) (lD b) = true := by
  have h1 := plain_lD a
  have h2 := plain_lD b
  have h3 := depth_lD a
  have h4 : alike (lD a) (lD b) = true := by simp [lD, alike, alikes_nD]
  have h5 : isNon (lD a) = false := rfl
  simp [ordable, h1, h2, h4, h5]
  omega
@[simp] theorem cmp_le_lD (a b : List Nat) : cmpD .le (lD a) (lD b) = some (!ltL b a) := by simp [cmpD, leC, ord_lD]
@[simp] theorem cmp_ne_LT (A : List (List Nat)) : cmpD .ne (LT A) (.tup []) = some (decide (A ≠ [])) := by
  have h : shallow (D.tup []) = true := by decide
  cases A with
  | nil => simp [cmpD, eqC, h, LT, eqD, eqDs]
  | cons a A =>
    have h2 := shallow_LT (a :: A)
    simp [cmpD, eqC, h, h2]
    simp [LT, eqD, eqDs]
@[simp] theorem cmp_eq_LT (A : List (List Nat)) : cmpD .eq (LT A) (.tup []) = some (decide (A = [])) := by
  have h : shallow (D.tup []) = true := by decide
  cases A with
  | nil => simp [cmpD, eqC, h, LT, eqD, eqDs]
  | cons a A =>
    have h2 := shallow_LT (a :: A)
    simp [cmpD, eqC, h, h2]
    simp [LT, eqD, eqDs]
theorem ix_last (st : St) {A : List (List Nat)} {b : List Nat} (h : A.getLast? = some b) : ixD st (LT A) (.int (-1)) = some (lD b) := by
  have hl : 0 < A.length := by
    cases A with
    | nil => simp at h
    | cons a A => simp
  have e : place (A.map lD).length (-1) = some (A.length - 1) := by
    simp [place]
    constructor
    · omega
    · omega
  simp only [ixD, LT, e, Option.bind_some, List.getElem?_map]
  rw [← List.getLast?_eq_getElem?, h]
  rfl
@[simp] theorem slc_take (F : List (List Nat)) (k : Nat) : slcD (LT F) .non (.int k) = some (LT (F.take k)) := by
  have : cutL (F.map lD) 0 (min k F.length) = (F.take k).map lD := by
    rw [cut_take, List.map_take]
    by_cases h : k ≤ F.length
    · rw [Nat.min_eq_left h]
    · rw [Nat.min_eq_right (by omega), List.take_of_length_le (by simp), List.take_of_length_le (by simp; omega)]
  simp [slcD, LT, clip, this]
def SFacets (call : CallF) (k : Nat) : Prop := ∀ n F st, Cx n F → call k [nD n, LT F] st = some (.non, st)
def SFault (call : CallF) (k : Nat) : Prop := ∀ n F st, Cx n F → call k [cD n F] st = some (.non, st)
def SNeed (call : CallF) (k : Nat) : Prop := ∀ n F st, Cx n F → call k [cD n F] st = some (cD n F, st)
section
variable {C : Cfg} {g h : Nat → Nat} {st : St}
theorem zip_get {F : List (List Nat)} {k : Nat} {f : List Nat} (h : (k, f) ∈ (List.range F.length).zip F) : F[k]? = some f := by
  obtain ⟨i, hi⟩ := List.mem_iff_getElem?.mp h
  rw [List.getElem?_zip_eq_some] at hi
  obtain ⟨h1, h2⟩ := hi
  have hlt := (List.getElem?_eq_some_iff.mp h1).1
  simp only [List.length_range] at hlt
  rw [List.getElem?_range hlt] at h1
  cases h1
  exact h2
theorem r5 (h2 : SLot C.call (g 2)) (h4 : SLies C.call (g 4)) (n : Nat) (F : List (List Nat)) (c : Cx n F) : R C (TL.f5 g h) [nD n, LT F] st = some (.non, st) := by
  have hlen := c.len
  simp [R, TL.f5, TL.b5, startE, enm_LT]
  refine for_fin eD (fun (_ : Unit) env s => ∃ v2 v3 v4 v5, env = [Sl.sh (nD n), Sl.sh (LT F), v2, v3, v4, v5] ∧ s = st) (fun _ _ => ()) () ⟨_, _, _, _, rfl, rfl⟩ ?_ ?_
  · rintro _ ⟨k, f⟩ env s hm ⟨v2, v3, v4, v5, rfl, rfl⟩
    have hk := zip_get hm
    have hf : f ∈ F := List.mem_of_getElem? hk
    have lf := c.lot f hf
    have zf : f.length ≤ 100000 := by have := lf.len; have := c.n10; omega
    refine ⟨[Sl.sh (nD n), Sl.sh (LT F), Sl.sh (nD k), Sl.sh (lD f), Sl.sh (LT (F.take k)), v5], s, ?_, ⟨_, _, _, _, rfl, rfl⟩⟩
    have ea : asgT (T.tup (T.cons (T.var 2) (T.cons (T.var 3) T.nil))) (eD (k, f)) [Sl.sh (nD n), Sl.sh (LT F), v2, v3, v4, v5] = some [Sl.sh (nD n), Sl.sh (LT F), Sl.sh (nD k), Sl.sh (lD f), v4, v5] := rfl
    rw [ea]
    simp [setV, h2 n f s lf zf]
    have hkl : k < F.length := (List.getElem?_eq_some_iff.mp hk).1
    have first : (if ¬k = 0 ∧ ¬F = [] then (Option.map (fun x => (x, s)) (ixD s (LT (List.take k F)) (D.int (-1)))).bind fun x => Option.map (fun c => (D.bl c, x.snd)) (cmpD Cm.le (lD f) x.fst) else some (D.bl false, s)) = some (D.bl false, s) := by
      by_cases hk0 : k = 0
      · simp [hk0]
      · have hF : F ≠ [] := by intro z; subst z; simp at hkl
        obtain ⟨j, rfl⟩ : ∃ j, k = j + 1 := ⟨k - 1, by omega⟩
        have hlast : (F.take (j + 1)).getLast? = some F[j] := by
          rw [List.getLast?_eq_getElem?, List.length_take]
          have : min (j + 1) F.length - 1 = j := by omega
          rw [this, List.getElem?_take_of_lt (by omega), List.getElem?_eq_getElem (by omega)]
        have hlt : ltL F[j] f = true := by
          have hp := List.pairwise_iff_getElem.mp c.srt j (j + 1) (by omega) (by omega) (by omega)
          rw [List.getElem?_eq_getElem hkl] at hk
          cases hk
          exact hp
        simp [hF, ix_last s hlast, hlt]
    rw [first]
    simp [-List.map_take]
    rw [lc_all lD (fun _ => .bl false) (by simp; omega)]
    · simp [-List.map_take]
    · intro e he
      have heF : e ∈ F := List.mem_of_mem_take he
      have le := c.lot e heF
      have ze : e.length ≤ 100000 := by have := le.len; have := c.n10; omega
      have hne : e ≠ f := by
        intro z
        subst z
        obtain ⟨i, hi, e2⟩ := List.mem_take_iff_getElem.mp he
        have hkk := (List.getElem?_eq_some_iff.mp hk).2
        have hp := List.pairwise_iff_getElem.mp c.srt i k (by omega) (by omega) (by omega)
        rw [e2, hkk, ltL_irr] at hp
        cases hp
      have n1 : subB e f = false := by
        cases q : subB e f with
        | false => rfl
        | true => exact absurd (c.anti e heF f hf q) hne
      have n2 : subB f e = false := by
        cases q : subB f e with
        | false => rfl
        | true => exact absurd (c.anti f hf e heF q).symm hne
      refine ⟨_, rfl, by simp, ?_⟩
      simp [h4 e f s ze, h4 f e s zf, n1, n2]
  · rintro env' st' ⟨v2, v3, v4, v5, rfl, rfl⟩
    simp
theorem r6 (h1 : SFrom C.call (g 1)) (h5 : SFacets C.call (g 5)) (hc : C.consts[h 0]? = some (.int 10)) (n : Nat) (F : List (List Nat)) (c : Cx n F) : R C (TL.f6 g h) [cD n F] st = some (.non, st) := by
  have := c.n1
  have := c.n10
  have e : (decide ((1 : Int) ≤ n) && decide ((n : Int) ≤ 10)) = true := by simp; omega
  simp [R, TL.f6, TL.b6, startE, hc, h1 n 1 10, h5 n F st c, e, setV, isNon]
theorem r7 (h6 : SFault C.call (g 6)) (n : Nat) (F : List (List Nat)) (c : Cx n F) : R C (TL.f7 g h) [cD n F] st = some (cD n F, st) := by
  simp [R, TL.f7, TL.b7, startE, h6 n F st c, setV, isNon]
def SNeeds (call : CallF) (k : Nat) : Prop := ∀ n F m E st, Cx n F → Cx m E → call k [cD n F, cD m E] st = some (.non, st)
theorem r8 (h7 : SNeed C.call (g 7)) (n : Nat) (F : List (List Nat)) (m : Nat) (E : List (List Nat)) (c : Cx n F) (c2 : Cx m E) : R C (TL.f8 g h) [cD n F, cD m E] st = some (.non, st) := by
  simp [R, TL.f8, TL.b8, startE, h7 n F st c, h7 m E st c2]
end
end Pl
end

section
set_option autoImplicit false
set_option linter.all false
set_option maxRecDepth 100000
/-! Pl5: greatest lots, lots in a lot, faces. -/
namespace Pl
open Mini
/-! ### keys that are put in one after another -/
def keysE {α : Type} (f : α → List Nat) (l : List α) (ks : List (List Nat)) : List (List Nat) := l.foldl (fun acc x => insE acc (f x)) ks
theorem keysE_mem {α : Type} (f : α → List Nat) : ∀ (l : List α) (ks : List (List Nat)) (x : List Nat), x ∈ keysE f l ks ↔ x ∈ ks ∨ ∃ a ∈ l, f a = x
  | [], ks, x => by simp [keysE]
  | a :: l, ks, x => by
    show x ∈ keysE f l (insE ks (f a)) ↔ _
    rw [keysE_mem f l, insE_mem]
    constructor
    · rintro ((h | h) | ⟨b, hb, h⟩)
      · exact .inl h
      · exact .inr ⟨a, List.mem_cons_self .., h.symm⟩
      · exact .inr ⟨b, List.mem_cons_of_mem _ hb, h⟩
    · rintro (h | ⟨b, hb, h⟩)
      · exact .inl (.inl h)
      · rcases List.mem_cons.mp hb with rfl | hb
        · exact .inl (.inr h.symm)
        · exact .inr ⟨b, hb, h⟩
theorem keysE_nodup {α : Type} (f : α → List Nat) : ∀ (l : List α) (ks : List (List Nat)), ks.Nodup → (keysE f l ks).Nodup
  | [], ks, h => h
  | a :: l, ks, h => keysE_nodup f l _ (insE_nodup h)
theorem insE_len (ks : List (List Nat)) (k : List Nat) : (insE ks k).length ≤ ks.length + 1 := by
  unfold insE
  split <;> simp
theorem keysE_len {α : Type} (f : α → List Nat) : ∀ (l : List α) (ks : List (List Nat)), (keysE f l ks).length ≤ ks.length + l.length
  | [], ks => by simp [keysE]
  | a :: l, ks => by
    have h1 := keysE_len f l (insE ks (f a))
    have h2 := insE_len ks (f a)
    show (keysE f l (insE ks (f a))).length ≤ _
    simp only [List.length_cons]
    omega
abbrev tD (ks : List (List Nat)) : List (D × D) := ks.map fun k => (lD k, D.bl true)
theorem put_tD (ks : List (List Nat)) (k : List Nat) : put (tD ks) (lD k) (.bl true) = tD (insE ks k) := by
  have h := put_dD ks (fun _ => .bl true) k (.bl true)
  rw [h]
  refine List.map_congr_left fun x _ => ?_
  by_cases e : x = k <;> simp [e]
theorem dcGo_true {α : Type} (en : α → D) (f : α → List Nat) {asg : D → Option Env} {test : Env → St → Option (Bool × St)} {ky vl : Env → St → Option (D × St)} {st : St} : ∀ (l : List α) (ks : List (List Nat)),
    (∀ x ∈ l, ∃ env, asg (en x) = some env ∧ test env st = some (true, st) ∧ ky env st = some (lD (f x), st) ∧ vl env st = some (.bl true, st)) → dcGo asg test ky vl (l.map en) st (tD ks) = some (tD (keysE f l ks), st)
  | [], ks, _ => rfl
  | x :: l, ks, h => by
    obtain ⟨env, h1, h2, h3, h4⟩ := h x (List.mem_cons_self ..)
    have ih := dcGo_true en f l (insE ks (f x)) fun y hy => h y (List.mem_cons_of_mem _ hy)
    simp only [List.map_cons, dcGo, h1, h2, h3, h4, Option.bind_some, if_true, key_lD, put_tD]
    exact ih
theorem dc_true {α : Type} (en : α → D) (f : α → List Nat) {asg : D → Option Env} {test : Env → St → Option (Bool × St)} {ky vl : Env → St → Option (D × St)} {st : St} {l : List α} (hz : l.length ≤ 10000000)
    (h : ∀ x ∈ l, ∃ env, asg (en x) = some env ∧ test env st = some (true, st) ∧ ky env st = some (lD (f x), st) ∧ vl env st = some (.bl true, st)) :
    ((dcGo asg test ky vl (l.map en) st []).bind fun x => if x.1.length < LIM then some (D.dct x.1, x.2) else none) = some (dD (keysE f l []) (fun _ => .bl true), st) := by
  have e := dcGo_true en f l [] h
  rw [show ([] : List (D × D)) = tD [] from rfl, e]
  have h1 := keysE_len f l []
  have : (tD (keysE f l [])).length < LIM := by
    rw [List.length_map]
    simp only [List.length_nil, Nat.zero_add] at h1
    exact Nat.lt_of_le_of_lt (Nat.le_trans h1 hz) (by decide)
  simp only [Option.bind_some, this, if_true]
  rfl
/-! ### sorted by length -/
def ltR (a b : List Nat) : Bool := decide (b.length < a.length)
theorem insR_map (x : List Nat) : ∀ l : List (List Nat), sortLenRev.insR (lD x) (l.map lD) = (insB ltR x l).map lD
  | [] => rfl
  | y :: ys => by
    have e : ∀ z : List Nat, (lenD (lD z)).getD 0 = z.length := fun z => by simp [lenD, lD]
    simp only [List.map_cons, sortLenRev.insR, insB, e, ltR]
    by_cases q : x.length < y.length
    · have ih := insR_map x ys
      simp [q, ih]
    · simp [q]
theorem slr_map : ∀ l : List (List Nat), sortLenRev (l.map lD) = (srtB ltR l).map lD
  | [] => rfl
  | x :: xs => by
    simp only [List.map_cons, sortLenRev, srtB, slr_map xs]
    exact insR_map x _
theorem insR_desc (x : List Nat) : ∀ {l : List (List Nat)}, l.Pairwise (fun a b => b.length ≤ a.length) → (insB ltR x l).Pairwise (fun a b => b.length ≤ a.length)
  | [], _ => by simp [insB]
  | y :: ys, h => by
    have h := List.pairwise_cons.mp h
    unfold insB
    split
    · rename_i q
      refine List.pairwise_cons.mpr ⟨fun z hz => ?_, insR_desc x h.2⟩
      rcases List.mem_cons.mp ((insB_perm ltR x ys).mem_iff.mp hz) with rfl | hz
      · simp [ltR] at q; omega
      · exact h.1 z hz
    · rename_i q
      simp [ltR] at q
      refine List.pairwise_cons.mpr ⟨fun z hz => ?_, List.pairwise_cons.mpr h⟩
      rcases List.mem_cons.mp hz with rfl | hz
      · exact q
      · exact Nat.le_trans (h.1 z hz) q
theorem slr_desc : ∀ l : List (List Nat), (srtB ltR l).Pairwise (fun a b => b.length ≤ a.length)
  | [] => .nil
  | x :: xs => insR_desc x (slr_desc xs)
@[simp] theorem bi_slr (ks : List (List Nat)) (v : List Nat → D) : biD .sortedLenRev [dD ks v] = some (LL (srtB ltR ks)) := by
  have e : (ks.map fun k => (lD k, v k)).map (·.1) = ks.map lD := by simp [List.map_map, Function.comp_def]
  show ((itemsD (dD ks v)).bind fun xs => if xs.all isIntTup && !isSet (dD ks v) then some (D.lst (sortLenRev xs)) else none) = _
  simp only [dD, LL, itemsD, Option.bind_some, e, allTup, isSet, Bool.not_false, Bool.and_self, if_true, slr_map]
/-! ### the greatest of lots -/
def isMax (F : List (List Nat)) (x : List Nat) : Bool := F.all fun y => !subB x y || decide (x = y)
def maxs (F : List (List Nat)) : List (List Nat) := srtB ltL ((keysE id F []).filter (isMax F))
theorem isMax_iff {F : List (List Nat)} {x : List Nat} : isMax F x = true ↔ ∀ y ∈ F, subB x y = true → x = y := by
  simp only [isMax, List.all_eq_true, Bool.or_eq_true, Bool.not_eq_true', decide_eq_true_eq]
  constructor
  · intro h y hy hs
    rcases h y hy with q | q
    · rw [hs] at q; cases q
    · exact q
  · intro h y hy
    cases q : subB x y with
    | false => exact .inl rfl
    | true => exact .inr (h y hy q)
theorem maxs_mem {F : List (List Nat)} {x : List Nat} : x ∈ maxs F ↔ x ∈ F ∧ ∀ y ∈ F, subB x y = true → x = y := by
  unfold maxs
  rw [srtB_mem, List.mem_filter, keysE_mem, isMax_iff]
  simp
theorem maxs_asc (F : List (List Nat)) : Asc ltL (maxs F) := srtB_asc ordL (List.Pairwise.filter _ (keysE_nodup _ _ _ List.nodup_nil))
theorem maxs_eq {F R : List (List Nat)} (h : Asc ltL R) (hm : ∀ x, x ∈ R ↔ x ∈ F ∧ ∀ y ∈ F, subB x y = true → x = y) : R = maxs F := asc_ext ordL h (maxs_asc F) fun x => by rw [hm, maxs_mem]
theorem sub_len {n : Nat} {a b : List Nat} (ha : Lot n a) (hb : Lot n b) (h : subB a b = true) (hl : b.length ≤ a.length) : a = b := by
  have hs := (sub_iff ha.asc hb.asc).mpr (subB_iff.mp h)
  exact hs.eq_of_length_le hl
/-- the loop that gathers them -/
def gat (L : List (List Nat)) : List (List Nat) := L.foldl (fun acc x => if acc.any (subB x) then acc else acc ++ [x]) []
theorem subB_trans {a b c : List Nat} (h1 : subB a b = true) (h2 : subB b c = true) : subB a c = true := subB_iff.mpr fun x hx => subB_iff.mp h2 x (subB_iff.mp h1 x hx)
theorem subB_refl (a : List Nat) : subB a a = true := subB_iff.mpr fun _ h => h
theorem gat_inv {n : Nat} {L : List (List Nat)} (hl : ∀ f ∈ L, Lot n f) (nd : L.Nodup) (hd : L.Pairwise (fun a b => b.length ≤ a.length)) : ∀ (P S : List (List Nat)), P ++ S = L →
    ((gat P).Nodup ∧ (∀ x ∈ gat P, x ∈ P ∧ ∀ y ∈ L, subB x y = true → x = y) ∧ ∀ y ∈ P, ∃ z ∈ gat P, subB y z = true) := by
  intro P
  induction P using snoc_ind with
  | h0 => intro S _; simp [gat]
  | h1 P p ih =>
    intro S e
    have e' : P ++ (p :: S) = L := by rw [← e]; simp
    obtain ⟨i0, i1, i2⟩ := ih (p :: S) e'
    have hp : p ∉ P := by
      rw [← e'] at nd
      rw [List.nodup_append] at nd
      intro z
      exact nd.2.2 p z p (List.mem_cons_self ..) rfl
    have hpL : p ∈ L := by rw [← e']; simp
    have eg : gat (P ++ [p]) = if (gat P).any (subB p) then gat P else gat P ++ [p] := by simp [gat, List.foldl_append]
    by_cases q : (gat P).any (subB p) = true
    · rw [eg, if_pos q]
      refine ⟨i0, fun x hx => ⟨List.mem_append_left _ (i1 x hx).1, (i1 x hx).2⟩, fun y hy => ?_⟩
      rcases List.mem_append.mp hy with hy | hy
      · exact i2 y hy
      · rw [List.mem_singleton] at hy
        subst hy
        obtain ⟨z, hz, hs⟩ := List.any_eq_true.mp q
        exact ⟨z, hz, hs⟩
    · rw [eg, if_neg q]
      refine ⟨?_, fun x hx => ?_, fun y hy => ?_⟩
      · rw [List.nodup_append]
        refine ⟨i0, by simp, fun a ha b hb => ?_⟩
        rw [List.mem_singleton] at hb
        subst hb
        exact fun z => hp (z ▸ (i1 a ha).1)
      · rcases List.mem_append.mp hx with hx | hx
        · exact ⟨List.mem_append_left _ (i1 x hx).1, (i1 x hx).2⟩
        · rw [List.mem_singleton] at hx
          subst hx
          refine ⟨by simp, fun y hy hs => ?_⟩
          rw [← e', List.mem_append] at hy
          rcases hy with hy | hy
          · obtain ⟨z, hz, hz2⟩ := i2 y hy
            exact absurd (List.any_eq_true.mpr ⟨z, hz, subB_trans hs hz2⟩) q
          · refine sub_len (hl x hpL) (hl y (by rw [← e']; exact List.mem_append_right _ hy)) hs ?_
            rcases List.mem_cons.mp hy with rfl | hy
            · exact Nat.le_refl _
            · rw [← e', List.pairwise_append] at hd
              exact (List.pairwise_cons.mp hd.2.1).1 y hy
      · rcases List.mem_append.mp hy with hy | hy
        · obtain ⟨z, hz, h2⟩ := i2 y hy
          exact ⟨z, List.mem_append_left _ hz, h2⟩
        · rw [List.mem_singleton] at hy
          subst hy
          exact ⟨y, by simp, subB_refl y⟩
theorem gat_maxs {n : Nat} {F : List (List Nat)} (hl : ∀ f ∈ F, Lot n f) : srtB ltL (gat (srtB ltR (keysE id F []))) = maxs F := by
  have hm : ∀ x, x ∈ srtB ltR (keysE id F []) ↔ x ∈ F := fun x => by rw [srtB_mem, keysE_mem]; simp
  have nd : (srtB ltR (keysE id F [])).Nodup := (srtB_perm _ _).nodup_iff.mpr (keysE_nodup _ _ _ List.nodup_nil)
  obtain ⟨i0, i1, i2⟩ := gat_inv (n := n) (fun f hf => hl f ((hm f).mp hf)) nd (slr_desc _) (srtB ltR (keysE id F [])) [] (by simp)
  refine maxs_eq (srtB_asc ordL i0) fun x => ?_
  rw [srtB_mem]
  constructor
  · intro hx
    refine ⟨(hm x).mp (i1 x hx).1, fun y hy hs => (i1 x hx).2 y ((hm y).mpr hy) hs⟩
  · rintro ⟨hx, h⟩
    obtain ⟨z, hz, hs⟩ := i2 x ((hm x).mpr hx)
    have := h z ((hm z).mp (i1 z hz).1) hs
    exact this ▸ hz
theorem gat_len (L : List (List Nat)) : (gat L).length ≤ L.length := by
  induction L using snoc_ind with
  | h0 => simp [gat]
  | h1 P p ih =>
    have eg : gat (P ++ [p]) = if (gat P).any (subB p) then gat P else gat P ++ [p] := by simp [gat, List.foldl_append]
    rw [eg]
    split <;> simp <;> omega
theorem app_LL {a : Env} {i : Nat} {x : List Nat} {st : St} {L : List (List Nat)} (h : a[i]? = some (.ow (LL L))) (hz : L.length ≤ 10000000) : appX a i (lD x) st = some (.nx, a.set i (.ow (LL (L ++ [x]))), st) := by
  have : L.length < LIM := Nat.lt_of_le_of_lt hz (by decide)
  simp [appX, h, LL, this]
def SGreat (call : CallF) (k : Nat) : Prop := ∀ n F st, (∀ f ∈ F, Lot n f) → n ≤ 10 → F.length ≤ 100000 → call k [LL F] st = some (LT (maxs F), st)
def SCxIn (call : CallF) (k : Nat) : Prop := ∀ n F st, (∀ f ∈ F, Lot n f) → n ≤ 10 → F.length ≤ 100000 → call k [nD n, LL F] st = some (cD n (maxs F), st)
def SSubs (call : CallF) (k : Nat) : Prop := ∀ l st, l.length ≤ 10 → call k [lD l] st = some (LL (subs l), st)
section
variable {C : Cfg} {g h : Nat → Nat} {st : St}
theorem r9 (h4 : SLies C.call (g 4)) (n : Nat) (F : List (List Nat)) (hl : ∀ f ∈ F, Lot n f) (hn : n ≤ 10) (hz : F.length ≤ 100000) : R C (TL.f9 g h) [LL F] st = some (LT (maxs F), st) := by
  simp [R, TL.f9, TL.b9, startE, ownable, setV]
  rw [dc_true lD id (by omega)]
  · simp
    have hk := keysE_len id F []
    have hks : (srtB ltR (keysE id F [])).length ≤ 100000 := by rw [srtB_length]; simp only [List.length_nil, Nat.zero_add] at hk; omega
    have hlot : ∀ f ∈ srtB ltR (keysE id F []), Lot n f := fun f hf => by
      rw [srtB_mem, keysE_mem] at hf
      simp at hf
      exact hl f hf
    refine inv_fin lD (fun rem env s => ∃ pre v2 v3, pre ++ rem = srtB ltR (keysE id F []) ∧ env = [Sl.sh (LL F), Sl.ow (LL (gat pre)), v2, v3] ∧ s = st) ⟨[], _, _, rfl, rfl, rfl⟩ ?_ ?_
    · rintro x rem env s ⟨pre, v2, v3, e, rfl, rfl⟩
      have hx : Lot n x := hlot x (by rw [← e]; simp)
      have zx : x.length ≤ 100000 := by have := hx.len; omega
      have hg := gat_len pre
      have hpl : pre.length ≤ 100000 := by have := congrArg List.length e; simp at this; omega
      have eg : gat (pre ++ [x]) = if (gat pre).any (subB x) then gat pre else gat pre ++ [x] := by simp [gat, List.foldl_append]
      refine ⟨[Sl.sh (LL F), Sl.ow (LL (gat (pre ++ [x]))), Sl.sh (lD x), v3], s, ?_, ⟨pre ++ [x], _, _, by simp [e], rfl, rfl⟩⟩
      simp [setV]
      rw [lc_all lD (fun y => .bl (subB x y)) (by omega)]
      · simp
        cases q : (gat pre).any (subB x) with
        | true =>
          rw [eg, q]
          simp
          rw [if_neg (by simpa using q)]
          simp
        | false =>
          rw [eg, q]
          simp
          rw [if_pos (by simpa using q), app_LL (L := gat pre) rfl (by omega)]
          simp
      · intro y hy
        exact ⟨_, rfl, by simp, by simp [h4 x y s zx]⟩
    · rintro env s ⟨pre, v2, v3, e, rfl, rfl⟩
      simp at e
      subst e
      simp [gat_maxs hl]
  · intro x hx
    exact ⟨_, rfl, by simp, by simp, by simp⟩
theorem r10 (h9 : SGreat C.call (g 9)) (n : Nat) (F : List (List Nat)) (hl : ∀ f ∈ F, Lot n f) (hn : n ≤ 10) (hz : F.length ≤ 100000) : R C (TL.f10 g h) [nD n, LL F] st = some (cD n (maxs F), st) := by
  have : (2 : Nat) ≤ LIM := by decide
  simp [R, TL.f10, TL.b10, startE, h9 n F st hl hn hz, this]
  rfl
theorem snoc_D (x : List Nat) (p : Nat) (h : x.length ≤ 1000000) : binD .add (lD x) (.tup [nD p]) = some (lD (x ++ [p])) := by
  have := bin_addT (x.map nD) [nD p] (by simp; omega)
  simp only [lD, List.map_append, List.map_cons, List.map_nil]
  exact this
theorem add_LL (A B : List (List Nat)) (h : A.length + B.length ≤ 1000000) : binD .add (LL A) (LL B) = some (LL (A ++ B)) := by
  have := bin_addL (A.map lD) (B.map lD) (by simp; omega)
  simp only [LL, List.map_append]
  exact this
theorem r11 (l : List Nat) (hl : l.length ≤ 10) : R C (TL.f11 g h) [lD l] st = some (LL (subs l), st) := by
  have h1 : (1 : Nat) ≤ LIM := by decide
  simp [R, TL.f11, TL.b11, startE, setV, h1]
  refine inv_fin nD (fun rem env s => ∃ pre v2 v3, pre ++ rem = l ∧ env = [Sl.sh (lD l), Sl.sh (LL (subs pre)), v2, v3] ∧ s = st) ⟨[], _, _, rfl, rfl, rfl⟩ ?_ ?_
  · rintro x rem env s ⟨pre, v2, v3, e, rfl, rfl⟩
    have hp : pre.length ≤ 9 := by have := congrArg List.length e; simp at this; omega
    have hs : (subs pre).length ≤ 512 := by
      rw [subs_len]
      exact Nat.pow_le_pow_right (by decide) hp (n := 2)
    refine ⟨[Sl.sh (lD l), Sl.sh (LL (subs (pre ++ [x]))), Sl.sh (nD x), v3], s, ?_, ⟨pre ++ [x], _, _, by simp [e], rfl, rfl⟩⟩
    simp [setV]
    rw [lc_all lD (fun y => lD (y ++ [x])) (by omega)]
    · have e2 : D.lst ((subs pre).map fun y => lD (y ++ [x])) = LL ((subs pre).map (· ++ [x])) := by simp [LL, Function.comp_def]
      rw [e2]
      simp
      rw [add_LL _ _ (by simp; omega), ← subs_snoc]
      simp
    · intro y hy
      have hy' := (subs_mem.mp hy).length_le
      refine ⟨_, rfl, by simp, ?_⟩
      simp [h1]
      rw [snoc_D y x (by omega)]
      simp
  · rintro env s ⟨pre, v2, v3, e, rfl, rfl⟩
    simp at e
    subst e
    simp
end
end Pl
end

section
set_option autoImplicit false
set_option linter.all false
set_option maxRecDepth 100000
/-! Pl6: faces, places, what is without a place. -/
namespace Pl
open Mini
def less (l o : List Nat) : List Nat := l.filter fun x => !decide (x ∈ o)
theorem less_mem {l o : List Nat} {x : Nat} : x ∈ less l o ↔ x ∈ l ∧ x ∉ o := by simp [less]
theorem less_sub (l o : List Nat) : (less l o).Sublist l := List.filter_sublist
def faces (F : List (List Nat)) : List (List Nat) := srtB ltL (keysE id (F.flatMap subs) [])
theorem faces_asc (F : List (List Nat)) : Asc ltL (faces F) := srtB_asc ordL (keysE_nodup _ _ _ List.nodup_nil)
theorem faces_mem {F : List (List Nat)} {x : List Nat} : x ∈ faces F ↔ ∃ f ∈ F, x.Sublist f := by
  unfold faces
  rw [srtB_mem, keysE_mem]
  simp [subs_mem]
theorem keysE_app {α : Type} (f : α → List Nat) (l m : List α) (ks : List (List Nat)) : keysE f (l ++ m) ks = keysE f m (keysE f l ks) := by simp [keysE, List.foldl_append]
theorem keysE_one {α : Type} (f : α → List Nat) (a : α) (ks : List (List Nat)) : keysE f [a] ks = insE ks (f a) := rfl
def TD (ks : List (List Nat)) : D := .dct (tD ks)
theorem put_TD {a : Env} {i : Nat} {k : List Nat} {st : St} {ks : List (List Nat)} (h : a[i]? = some (.ow (TD ks))) (hz : ks.length ≤ 10000000) : putX a i (.bl true) (lD k) st = some (.nx, a.set i (.ow (TD (insE ks k))), st) := by
  have h1 : ks.length < LIM := Nat.lt_of_le_of_lt hz (by decide)
  have h2 := keys_all ks (fun _ => D.bl true)
  simp only [putX, h, TD, key_lD, h2, List.length_map, h1, decide_true, Bool.and_self, if_true, put_tD]
@[simp] theorem bi_sorted_TD (ks : List (List Nat)) : biD .sorted [TD ks] = some (LL (srtB ltL ks)) := bi_sorted_dD ks _
@[simp] theorem mem_TD (x : List Nat) (ks : List (List Nat)) : memD (lD x) (TD ks) = some (decide (x ∈ ks)) := mem_dD x ks _
@[simp] theorem rng_nD (n : Nat) (st : St) (h : n ≤ 1000000) : rngX (nD n) st = some (NL (List.range n), st) := by
  have : (-1000000 : Int) ≤ n ∧ (n : Int) ≤ 1000000 := by omega
  simp only [rngX, nD, this, and_self, if_true, Int.toNat_natCast, NL]
def SFaces (call : CallF) (k : Nat) : Prop := ∀ n F st, Cx n F → call k [cD n F] st = some (LL (faces F), st)
def SFaceIn (call : CallF) (k : Nat) : Prop := ∀ n F x st, Cx n F → x.length ≤ 100000 → call k [cD n F, lD x] st = some (.bl (F.any (subB x)), st)
def placesL (n : Nat) (F : List (List Nat)) : List Nat := (List.range n).filter fun p => F.any (subB [p])
def SPlaces (call : CallF) (k : Nat) : Prop := ∀ n F st, Cx n F → call k [cD n F] st = some (NL (placesL n F), st)
def SLess (call : CallF) (k : Nat) : Prop := ∀ l o st, l.length ≤ 100000 → call k [lD l, lD o] st = some (lD (less l o), st)
/-- without a place -/
def woL (F : List (List Nat)) (k : Nat) : List (List Nat) := F.map fun f => if k ∈ f then less f [k] else f
def SWoIn (call : CallF) (k : Nat) : Prop := ∀ n F p st, Cx n F → call k [cD n F, lD [p]] st = some (cD n (maxs (woL F p)), st)
def SWo (call : CallF) (k : Nat) : Prop := ∀ n F p st, Cx n F → p < n → call k [cD n F, lD [p]] st = some (cD n (maxs (woL F p)), st)
section
variable {C : Cfg} {g h : Nat → Nat} {st : St}
theorem flat_len {n : Nat} {F : List (List Nat)} (hn : n ≤ 10) (h : ∀ f ∈ F, Lot n f) : (F.flatMap subs).length ≤ F.length * 1024 := by
  induction F with
  | nil => simp
  | cons f F ih =>
    have h1 := ih fun e he => h e (List.mem_cons_of_mem _ he)
    have h2 := (h f (List.mem_cons_self ..)).len
    have h3 : 2 ^ f.length ≤ 2 ^ 10 := Nat.pow_le_pow_right (by decide) (by omega)
    simp only [List.flatMap_cons, List.length_append, subs_len, List.length_cons]
    omega
theorem r12 (h11 : SSubs C.call (g 11)) (n : Nat) (F : List (List Nat)) (c : Cx n F) : R C (TL.f12 g h) [cD n F] st = some (LL (faces F), st) := by
  have hlen := c.len
  simp [R, TL.f12, TL.b12, startE, setV, ownable]
  refine inv_fin lD (fun rem env s => ∃ pre v2 v3, pre ++ rem = F ∧ env = [Sl.sh (cD n F), Sl.ow (TD (keysE id (pre.flatMap subs) [])), v2, v3] ∧ s = st) ⟨[], _, _, rfl, rfl, rfl⟩ ?_ ?_
  · rintro x rem env s ⟨pre, v2, v3, e, rfl, rfl⟩
    have hx : x ∈ F := by rw [← e]; simp
    have lx := c.lot x hx
    have zx : x.length ≤ 10 := Nat.le_trans lx.len c.n10
    have hp : pre.length ≤ 1024 := by have := congrArg List.length e; simp at this; omega
    have hf : (pre.flatMap subs).length ≤ pre.length * 1024 := flat_len c.n10 fun f hf => c.lot f (by rw [← e]; simp [hf])
    have hs : (subs x).length ≤ 1024 := by
      rw [subs_len]
      exact Nat.pow_le_pow_right (by decide) zx (n := 2)
    simp [setV, h11 x s zx]
    refine inv_ex lD (fun rem2 env s2 => ∃ p2 v3, p2 ++ rem2 = subs x ∧ env = [Sl.sh (cD n F), Sl.ow (TD (keysE id p2 (keysE id (pre.flatMap subs) []))), Sl.sh (lD x), v3] ∧ s2 = s) ⟨[], _, rfl, rfl, rfl⟩ ?_ ?_
    · rintro y rem2 env s2 ⟨p2, v3, e2, rfl, rfl⟩
      have hp2 : p2.length ≤ 1024 := by have := congrArg List.length e2; simp at this; omega
      have hk1 := keysE_len id (pre.flatMap subs) []
      have hk2 := keysE_len id p2 (keysE id (pre.flatMap subs) [])
      simp only [List.length_nil, Nat.zero_add] at hk1
      refine ⟨[Sl.sh (cD n F), Sl.ow (TD (keysE id (p2 ++ [y]) (keysE id (pre.flatMap subs) []))), Sl.sh (lD x), Sl.sh (lD y)], s2, ?_, ⟨p2 ++ [y], _, by simp [e2], rfl, rfl⟩⟩
      simp [setV]
      rw [put_TD (ks := keysE id p2 (keysE id (pre.flatMap subs) [])) rfl (by omega)]
      simp [keysE_app, keysE_one]
    · rintro env s2 ⟨p2, v3, e2, rfl, rfl⟩
      simp at e2
      subst e2
      have ek : keysE id (List.flatMap subs (pre ++ [x])) [] = keysE id (subs x) (keysE id (pre.flatMap subs) []) := by simp [List.flatMap_append, keysE_app]
      exact ⟨_, _, rfl, pre ++ [x], by simp [e], ⟨_, _, by rw [ek]⟩, rfl⟩
  · rintro env s ⟨pre, v2, v3, e, rfl, rfl⟩
    simp at e
    subst e
    simp [faces]
theorem r13 (h4 : SLies C.call (g 4)) (n : Nat) (F : List (List Nat)) (x : List Nat) (c : Cx n F) (hx : x.length ≤ 100000) : R C (TL.f13 g h) [cD n F, lD x] st = some (.bl (F.any (subB x)), st) := by
  have hlen := c.len
  simp [R, TL.f13, TL.b13, startE]
  rw [lc_all lD (fun y => .bl (subB x y)) (by omega)]
  · simp
  · intro y hy
    exact ⟨_, rfl, by simp, by simp [h4 x y st hx]⟩
theorem r14 (h13 : SFaceIn C.call (g 13)) (n : Nat) (F : List (List Nat)) (c : Cx n F) : R C (TL.f14 g h) [cD n F] st = some (NL (placesL n F), st) := by
  have h1 : (1 : Nat) ≤ LIM := by decide
  have h10 := c.n10
  simp [R, TL.f14, TL.b14, startE, rng_nD n st (by omega)]
  rw [lc_map nD (fun p => F.any (subB [p])) nD (by simp; omega)]
  · simp [placesL, NL]
  · intro y hy
    have e : D.tup [nD y] = lD [y] := rfl
    refine ⟨_, rfl, ?_, by simp⟩
    simp [h1, e, h13 n F [y] st c (by simp)]
    cases q : F.any (subB [y]) with
    | true => rw [if_pos (by simpa using q)]
    | false => rw [if_neg (by simpa using q)]
theorem r15 (l o : List Nat) (hl : l.length ≤ 100000) : R C (TL.f15 g h) [lD l, lD o] st = some (lD (less l o), st) := by
  simp [R, TL.f15, TL.b15, startE]
  rw [lc_map nD (fun x => !decide (x ∈ o)) nD (by omega)]
  · have e : D.lst ((l.filter fun x => !decide (x ∈ o)).map nD) = NL (less l o) := rfl
    rw [e]
    simp
  · intro y hy
    refine ⟨_, rfl, ?_, by simp⟩
    simp
    by_cases q : y ∈ o <;> simp [q]
theorem r16 (h4 : SLies C.call (g 4)) (h15 : SLess C.call (g 15)) (h10 : SCxIn C.call (g 10)) (n : Nat) (F : List (List Nat)) (p : Nat) (c : Cx n F) : R C (TL.f16 g h) [cD n F, lD [p]] st = some (cD n (maxs (woL F p)), st) := by
  have h1 : (1 : Nat) ≤ LIM := by decide
  have hlen := c.len
  simp [R, TL.f16, TL.b16, startE, setV, ownable]
  refine inv_fin lD (fun rem env s => ∃ pre v3 v4, pre ++ rem = F ∧ env = [Sl.sh (cD n F), Sl.sh (lD [p]), Sl.ow (LL (woL pre p)), v3, v4] ∧ s = st) ⟨[], _, _, rfl, rfl, rfl⟩ ?_ ?_
  · rintro x rem env s ⟨pre, v3, v4, e, rfl, rfl⟩
    have hx : x ∈ F := by rw [← e]; simp
    have lx := c.lot x hx
    have zx : x.length ≤ 10 := Nat.le_trans lx.len c.n10
    have hp : pre.length ≤ 1024 := by have := congrArg List.length e; simp at this; omega
    refine ⟨[Sl.sh (cD n F), Sl.sh (lD [p]), Sl.ow (LL (woL (pre ++ [x]) p)), Sl.sh (lD x), v4], s, ?_, ⟨pre ++ [x], _, _, by simp [e], rfl, rfl⟩⟩
    have es : subB [p] x = decide (p ∈ x) := by simp [subB]
    simp [setV, h4 [p] x s (by simp), es]
    by_cases q : p ∈ x
    · simp [q]
      rw [show ([nD p] : List D) = [p].map nD from rfl, lc_all nD (fun y => lD (less x [y])) (by simp)]
      · have e2 : D.lst (([p] : List Nat).map fun y => lD (less x [y])) = LL [less x [p]] := rfl
        rw [e2]
        simp
        rw [add_LL _ _ (by simp [woL]; omega)]
        simp [ownable, LL, woL, q]
      · intro y hy
        refine ⟨_, rfl, by simp, ?_⟩
        have e3 : D.tup [nD y] = lD [y] := rfl
        simp [h1, e3, h15 x [y] s (by omega)]
    · simp [q]
      rw [app_LL (L := woL pre p) rfl (by simp [woL]; omega)]
      simp [woL, q]
  · rintro env s ⟨pre, v3, v4, e, rfl, rfl⟩
    simp at e
    subst e
    have hl : ∀ f ∈ woL pre p, Lot n f := fun f hf => by
      obtain ⟨e, he, rfl⟩ := List.mem_map.mp hf
      split
      · exact (c.lot e he).sub (less_sub _ _)
      · exact c.lot e he
    simp [fzX, h10 n (woL pre p) s hl c.n10 (by simp [woL]; omega)]
theorem r17 (h7 : SNeed C.call (g 7)) (h3 : SNLot C.call (g 3)) (h16 : SWoIn C.call (g 16)) (n : Nat) (F : List (List Nat)) (p : Nat) (c : Cx n F) (hp : p < n) : R C (TL.f17 g h) [cD n F, lD [p]] st = some (cD n (maxs (woL F p)), st) := by
  have hl : Lot n [p] := ⟨by simp, by simpa using hp⟩
  simp [R, TL.f17, TL.b17, startE, h7 n F st c, h3 n [p] st hl (by simp), h16 n F p st c]
end
end Pl
end

section
set_option autoImplicit false
set_option linter.all false
set_option maxRecDepth 100000
/-! Pl7: walls, tips, misses, what is built. -/
namespace Pl
open Mini
/-! ### counting in a dict -/
def CD (W : List (List Nat)) : D := dD (keysE id W []) fun k => nD (W.count k)
theorem keysE_in {W : List (List Nat)} {x : List Nat} : x ∈ keysE id W [] ↔ x ∈ W := by rw [keysE_mem]; simp
theorem get_CD (W : List (List Nat)) (w : List Nat) (st : St) : getX (CD W) (lD w) (.int 0) st = some (nD (W.count w), st) := by
  have h := keys_all (keysE id W []) fun k => nD (W.count k)
  simp only [getX, CD, dD, key_lD, h, Bool.and_self, if_true, look_dD, keysE_in]
  by_cases q : w ∈ W
  · simp [q]
  · simp [q, List.count_eq_zero_of_not_mem q]
theorem put_CD {a : Env} {i : Nat} {w : List Nat} {st : St} {W : List (List Nat)} (h : a[i]? = some (.ow (CD W))) (hz : W.length ≤ 10000000) : putX a i (.int (W.count w + 1)) (lD w) st = some (.nx, a.set i (.ow (CD (W ++ [w]))), st) := by
  have h0 := keysE_len id W []
  simp only [List.length_nil, Nat.zero_add] at h0
  have h1 : (keysE id W []).length < LIM := Nat.lt_of_le_of_lt (Nat.le_trans h0 hz) (by decide)
  have h2 := keys_all (keysE id W []) fun k => nD (W.count k)
  simp only [putX, h, CD, dD, key_lD, h2, List.length_map, h1, decide_true, Bool.and_self, if_true, put_dD]
  have e : (insE (keysE id W []) w).map (fun x => (lD x, if x = w then D.int (W.count w + 1) else nD (W.count x))) = (keysE id (W ++ [w]) []).map fun k => (lD k, nD ((W ++ [w]).count k)) := by
    rw [keysE_app, keysE_one]
    refine List.map_congr_left fun x _ => ?_
    by_cases q : x = w
    · subst q; simp [nD]
    · have q' : ¬ w = x := fun z => q z.symm
      simp [q, q', List.count_append, List.count_singleton]
  rw [e]
theorem ix_CD (W : List (List Nat)) (w : List Nat) (st : St) (hw : w ∈ W) : ixD st (CD W) (lD w) = some (nD (W.count w)) := by
  have h := keys_all (keysE id W []) fun k => nD (W.count k)
  simp only [ixD, CD, dD, key_lD, h, Bool.and_self, if_true, look_dD, keysE_in, hw]
def wlD (w : List Nat) (c : Nat) : D := .tup [lD w, nD c]
/-- the walls of facets, one after another -/
def wallsOf (f : List Nat) : List (List Nat) := f.map fun p => less f [p]
def wallsL (F : List (List Nat)) : List (List Nat) := F.flatMap wallsOf
def wallsR (F : List (List Nat)) : D := .tup ((srtB ltL (keysE id (wallsL F) [])).map fun w => wlD w ((wallsL F).count w))
theorem walls_len {n : Nat} {F : List (List Nat)} (hn : n ≤ 10) (h : ∀ f ∈ F, Lot n f) : (wallsL F).length ≤ F.length * 10 := by
  induction F with
  | nil => simp [wallsL]
  | cons f F ih =>
    have h1 := ih fun e he => h e (List.mem_cons_of_mem _ he)
    have h2 := (h f (List.mem_cons_self ..)).len
    simp only [wallsL, List.flatMap_cons, List.length_append, wallsOf, List.length_map, List.length_cons] at h1 ⊢
    omega
def SWalls (call : CallF) (k : Nat) : Prop := ∀ n F st, Cx n F → call k [cD n F] st = some (wallsR F, st)
def tipsL (F : List (List Nat)) : List Nat := match F with
  | [] => []
  | f :: F' => f.filter fun p => (f :: F').all fun e => decide (p ∈ e)
def STips (call : CallF) (k : Nat) : Prop := ∀ n F st, Cx n F → call k [cD n F] st = some (lD (tipsL F), st)
def missP (F : List (List Nat)) (x : List Nat) : Bool := !decide (x ∈ faces F) && x.all fun p => decide (less x [p] ∈ faces F)
def missL (n : Nat) (F : List (List Nat)) : List (List Nat) := srtB ltL ((subs (List.range n)).filter (missP F))
def SMissIn (call : CallF) (k : Nat) : Prop := ∀ n F st, Cx n F → call k [cD n F] st = some (LL (missL n F), st)
def SMiss (call : CallF) (k : Nat) : Prop := ∀ n F st, Cx n F → call k [cD n F] st = some (LT (missL n F), st)
section
variable {C : Cfg} {g h : Nat → Nat} {st : St}
theorem faces_len {n : Nat} {F : List (List Nat)} (c : Cx n F) : (faces F).length ≤ 1024 * 1024 := by
  unfold faces
  rw [srtB_length]
  have h1 := keysE_len id (F.flatMap subs) []
  have h2 := flat_len c.n10 c.lot
  have h3 := c.len
  simp only [List.length_nil, Nat.zero_add] at h1
  omega
theorem r18 (h7 : SNeed C.call (g 7)) (h15 : SLess C.call (g 15)) (n : Nat) (F : List (List Nat)) (c : Cx n F) : R C (TL.f18 g h) [cD n F] st = some (wallsR F, st) := by
  have h1 : (1 : Nat) ≤ LIM := by decide
  have h2 : (2 : Nat) ≤ LIM := by decide
  have hlen := c.len
  simp [R, TL.f18, TL.b18, startE, setV, ownable, h7 n F st c]
  rw [show Sl.ow (D.dct []) = Sl.ow (CD []) from rfl]
  refine inv_fin lD (fun rem env s => ∃ pre v2 v3 v4, pre ++ rem = F ∧ env = [Sl.sh (cD n F), Sl.ow (CD (wallsL pre)), v2, v3, v4] ∧ s = st) ⟨[], _, _, _, rfl, rfl, rfl⟩ ?_ ?_
  · rintro x rem env s ⟨pre, v2, v3, v4, e, rfl, rfl⟩
    have hx : x ∈ F := by rw [← e]; simp
    have lx := c.lot x hx
    have zx : x.length ≤ 10 := Nat.le_trans lx.len c.n10
    have hp : pre.length ≤ 1024 := by have := congrArg List.length e; simp at this; omega
    have hw : (wallsL pre).length ≤ pre.length * 10 := walls_len c.n10 fun f hf => c.lot f (by rw [← e]; simp [hf])
    simp [setV]
    refine inv_ex nD (fun rem2 env s2 => ∃ p2 W v3 v4, p2 ++ rem2 = x ∧ W = wallsL pre ++ (p2.map fun p => less x [p]) ∧ env = [Sl.sh (cD n F), Sl.ow (CD W), Sl.sh (lD x), v3, v4] ∧ s2 = s) ⟨[], _, _, _, rfl, rfl, by simp; exact ⟨rfl, rfl⟩, rfl⟩ ?_ ?_
    · rintro y rem2 env s2 ⟨p2, W, v3, v4, e2, eW, rfl, rfl⟩
      have hp2 : p2.length ≤ 10 := by have := congrArg List.length e2; simp at this; omega
      have e3 : D.tup [nD y] = lD [y] := rfl
      have zW : W.length ≤ 100000 := by rw [eW]; simp; omega
      refine ⟨[Sl.sh (cD n F), Sl.ow (CD (W ++ [less x [y]])), Sl.sh (lD x), Sl.sh (nD y), Sl.sh (lD (less x [y]))], s2, ?_, ⟨p2 ++ [y], _, _, _, by simp [e2], by simp [eW], rfl, rfl⟩⟩
      simp [setV, h1, e3, h15 x [y] s2 (by omega)]
      rw [get_CD]
      simp
      rw [put_CD (W := W) rfl (by omega)]
      simp
    · rintro env s2 ⟨p2, W, v3, v4, e2, eW, rfl, rfl⟩
      have e2 : p2 = x := by simpa using e2
      have ek : wallsL (pre ++ [x]) = W := by rw [eW, e2]; simp [wallsL, wallsOf]
      exact ⟨_, _, rfl, pre ++ [x], by simp [e], ⟨_, _, _, by rw [ek]⟩, rfl⟩
  · rintro env s ⟨pre, v2, v3, v4, e, rfl, rfl⟩
    simp at e
    subst e
    have hw := walls_len c.n10 c.lot
    have hk := keysE_len id (wallsL pre) []
    simp only [List.length_nil, Nat.zero_add] at hk
    simp
    rw [show biD .sorted [CD (wallsL pre)] = some (LL (srtB ltL (keysE id (wallsL pre) []))) from bi_sorted_dD _ _]
    simp
    rw [lc_all lD (fun w => wlD w ((wallsL pre).count w)) (by rw [srtB_length]; omega)]
    · simp [biD, wallsR]
    · intro w hw
      have hm : w ∈ wallsL pre := by rw [srtB_mem, keysE_in] at hw; exact hw
      refine ⟨_, rfl, by simp, ?_⟩
      simp [ix_CD _ _ _ hm, h2]
      rfl
theorem r21 (h7 : SNeed C.call (g 7)) (n : Nat) (F : List (List Nat)) (c : Cx n F) : R C (TL.f21 g h) [cD n F] st = some (lD (tipsL F), st) := by
  have h0 : (0 : Nat) ≤ LIM := by decide
  have hlen := c.len
  simp [R, TL.f21, TL.b21, startE, setV, h7 n F st c]
  cases F with
  | nil => simp [tipsL, lD]
  | cons f F' =>
    have hf := c.lot f (List.mem_cons_self ..)
    have zf : f.length ≤ 10 := Nat.le_trans hf.len c.n10
    have ei : ixD st (LT (f :: F')) (.int 0) = some (lD f) := by simp [ixD, LT, place]
    simp [ei]
    rw [lc_map nD (fun p => (f :: F').all fun e => decide (p ∈ e)) nD (by omega)]
    · simp [biD, tipsL, lD]
    · intro y hy
      refine ⟨_, rfl, ?_, by simp⟩
      simp
      rw [show (lD f :: F'.map lD) = (f :: F').map lD from rfl, lc_all lD (fun e => .bl (decide (y ∈ e))) (by omega)]
      · simp only [Option.bind_some, bi_all, Option.map_some, tru_bl]
        rw [show ((f :: F').all fun e => decide (y ∈ e)) = (decide (y ∈ f) && F'.all fun x => decide (y ∈ x)) by simp]
        cases (decide (y ∈ f) && F'.all fun x => decide (y ∈ x)) <;> rfl
      · intro e he
        exact ⟨_, rfl, by simp, by simp⟩
theorem r22 (h12 : SFaces C.call (g 12)) (h11 : SSubs C.call (g 11)) (h15 : SLess C.call (g 15)) (n : Nat) (F : List (List Nat)) (c : Cx n F) : R C (TL.f22 g h) [cD n F] st = some (LL (missL n F), st) := by
  have h1 : (1 : Nat) ≤ LIM := by decide
  have hlen := c.len
  have hn := c.n10
  have hfl := faces_len c
  simp [R, TL.f22, TL.b22, startE, setV, h12 n F st c]
  rw [dc_true lD id (by omega)]
  · have hs : (subs (List.range n)).length ≤ 1024 := by
      rw [subs_len, List.length_range]
      exact Nat.pow_le_pow_right (by decide) hn (n := 2)
    have emem : ∀ x : List Nat, memD (lD x) (dD (keysE id (faces F) []) fun _ => D.bl true) = some (decide (x ∈ faces F)) := fun x => by
      rw [mem_dD]
      simp [keysE_in]
    generalize hdd : (dD (keysE id (faces F) []) fun _ => D.bl true) = dd at *
    simp [ownable, setV, rng_nD n st (by omega), h11 (List.range n) st (by simpa using hn)]
    refine inv_fin lD (fun rem env s => ∃ pre v3 v4 v5, pre ++ rem = subs (List.range n) ∧ env = [Sl.sh (cD n F), Sl.sh dd, Sl.ow (LL (pre.filter (missP F))), v3, v4, v5] ∧ s = st) ⟨[], _, _, _, rfl, rfl, rfl⟩ ?_ ?_
    · rintro x rem env s ⟨pre, v3, v4, v5, e, rfl, rfl⟩
      have hp : pre.length ≤ 1024 := by have := congrArg List.length e; simp at this; omega
      have hx : x ∈ subs (List.range n) := by rw [← e]; simp
      have zx : x.length ≤ 10 := by have := (subs_mem.mp hx).length_le; simp at this; omega
      have hfp := List.length_filter_le (missP F) pre
      refine ⟨[Sl.sh (cD n F), Sl.sh dd, Sl.ow (LL ((pre ++ [x]).filter (missP F))), Sl.sh (lD x), v4, v5], s, ?_, ⟨pre ++ [x], _, _, _, by simp [e], rfl, rfl⟩⟩
      simp [setV, emem]
      by_cases q : x ∈ faces F
      · simp [q, missP]
      · simp [q]
        rw [lc_all nD (fun p => .bl (decide (less x [p] ∈ faces F))) (by omega)]
        · have em : missP F x = x.all fun p => decide (less x [p] ∈ faces F) := by simp [missP, q]
          simp only [Option.bind_some, bi_all, Option.map_some, tru_bl, ← em]
          cases qm : missP F x with
          | true =>
            simp
            rw [app_LL (L := pre.filter (missP F)) rfl (by omega)]
            simp [List.filter_append, qm]
          | false => simp [List.filter_append, qm]
        · intro p hp
          have e3 : D.tup [nD p] = lD [p] := rfl
          refine ⟨_, rfl, by simp, ?_⟩
          simp [h1, e3, h15 x [p] s (by omega), emem]
    · rintro env s ⟨pre, v3, v4, v5, e, rfl, rfl⟩
      simp at e
      subst e
      simp [missL]
  · intro x hx
    exact ⟨_, rfl, by simp, by simp, by simp⟩
theorem r23 (h7 : SNeed C.call (g 7)) (h22 : SMissIn C.call (g 22)) (n : Nat) (F : List (List Nat)) (c : Cx n F) : R C (TL.f23 g h) [cD n F] st = some (LT (missL n F), st) := by
  simp [R, TL.f23, TL.b23, startE, h7 n F st c, h22 n F st c]
end
end Pl
end

section
set_option autoImplicit false
set_option linter.all false
set_option maxRecDepth 100000
/-! Pl8: cones, complexes beside one another. -/
namespace Pl
open Mini
theorem flat_one {α β : Type} (f : α → β) : ∀ l : List α, (l.flatMap fun x => [f x]) = l.map f
  | [] => rfl
  | x :: l => by simp [List.flatMap_cons, flat_one f l]
def ptD : D := .wt [.int 1, .wt [.wt [.int 0]]]
def shiftL (F : List (List Nat)) (m : Nat) : List (List Nat) := F.map fun f => f.map (· + m)
def coneL (n : Nat) (F : List (List Nat)) : List (List Nat) := srtB ltL (F.map (· ++ [n]))
def besL (n : Nat) (F G : List (List Nat)) : List (List Nat) := maxs (F ++ shiftL G n)
def SBehind (call : CallF) (k : Nat) : Prop := ∀ n F m st, Cx n F → call k [cD n F, nD m] st = some (LL (shiftL F m), st)
def SBehindP (call : CallF) (k : Nat) : Prop := ∀ m st, call k [ptD, nD m] st = some (LL [[m]], st)
def SLet (call : CallF) (k : Nat) : Prop := ∀ n st, n ≤ 10 → call k [nD n] st = some (nD n, st)
def SJoinP (call : CallF) (k : Nat) : Prop := ∀ n F st, Cx n F → n ≤ 9 → call k [cD n F, ptD] st = some (cD (n + 1) (coneL n F), st)
def SCone (call : CallF) (k : Nat) : Prop := ∀ n F st, Cx n F → n ≤ 9 → call k [cD n F] st = some (cD (n + 1) (coneL n F), st)
def SBes (call : CallF) (k : Nat) : Prop := ∀ n F m G st, Cx n F → Cx m G → n + m ≤ 10 → call k [cD n F, cD m G] st = some (cD (n + m) (besL n F G), st)
@[simp] theorem add_nD (a b : Nat) : binD .add (nD a) (nD b) = some (nD (a + b)) := by simp [nD]
theorem shift_lot {n m : Nat} {f : List Nat} (h : Lot m f) : Lot (n + m) (f.map (· + n)) := by
  refine ⟨?_, fun x hx => ?_⟩
  · rw [List.pairwise_map]
    exact h.asc.imp fun h => by omega
  · obtain ⟨y, hy, rfl⟩ := List.mem_map.mp hx
    have := h.lt y hy
    omega
theorem Lot.mono {n m : Nat} {f : List Nat} (h : Lot n f) (hm : n ≤ m) : Lot m f := ⟨h.asc, fun x hx => by have := h.lt x hx; omega⟩
theorem bes_lots {n m : Nat} {F G : List (List Nat)} (c : Cx n F) (d : Cx m G) : ∀ f ∈ F ++ shiftL G n, Lot (n + m) f := fun f hf => by
  rcases List.mem_append.mp hf with hf | hf
  · exact (c.lot f hf).mono (by omega)
  · obtain ⟨e, he, rfl⟩ := List.mem_map.mp hf
    exact shift_lot (d.lot e he)
/-- the greatest of lots are a complex -/
theorem maxs_cx {n : Nat} {F : List (List Nat)} (h1 : 1 ≤ n) (h10 : n ≤ 10) (h : ∀ f ∈ F, Lot n f) : Cx n (maxs F) :=
  ⟨h1, h10, fun f hf => h f (maxs_mem.mp hf).1, maxs_asc F, fun f hf e he hs => (maxs_mem.mp hf).2 e (maxs_mem.mp he).1 hs⟩
theorem cone_lot {n : Nat} {f : List Nat} (h : Lot n f) : Lot (n + 1) (f ++ [n]) := by
  refine ⟨List.pairwise_append.mpr ⟨h.asc, by simp, fun x hx y hy => ?_⟩, fun x hx => ?_⟩
  · rw [List.mem_singleton] at hy
    have := h.lt x hx
    omega
  · rcases List.mem_append.mp hx with hx | hx
    · have := h.lt x hx; omega
    · rw [List.mem_singleton] at hx; omega
theorem cone_mem {n : Nat} {F : List (List Nat)} {x : List Nat} : x ∈ coneL n F ↔ ∃ f ∈ F, f ++ [n] = x := by
  unfold coneL
  rw [srtB_mem, List.mem_map]
theorem cone_nd {n : Nat} {F : List (List Nat)} (h : F.Nodup) : (F.map (· ++ [n])).Nodup := by
  rw [List.Nodup, List.pairwise_map]
  exact h.imp fun h z => h (List.append_cancel_right z)
theorem cone_cx {n : Nat} {F : List (List Nat)} (c : Cx n F) (h9 : n ≤ 9) : Cx (n + 1) (coneL n F) := by
  refine ⟨by omega, by omega, fun f hf => ?_, srtB_asc ordL (cone_nd c.nd), fun f hf e he hs => ?_⟩
  · obtain ⟨f0, h0, rfl⟩ := cone_mem.mp hf
    exact cone_lot (c.lot f0 h0)
  · obtain ⟨f0, h0, rfl⟩ := cone_mem.mp hf
    obtain ⟨e0, h1, rfl⟩ := cone_mem.mp he
    have : subB f0 e0 = true := subB_iff.mpr fun x hx => by
      have hx2 := subB_iff.mp hs x (List.mem_append_left _ hx)
      rcases List.mem_append.mp hx2 with q | q
      · exact q
      · rw [List.mem_singleton] at q
        have := (c.lot f0 h0).lt x hx
        omega
    rw [c.anti f0 h0 e0 h1 this]
section
variable {C : Cfg} {g h : Nat → Nat} {st : St}
theorem r24 (n : Nat) (F : List (List Nat)) (m : Nat) (c : Cx n F) : R C (TL.f24 g h) [cD n F, nD m] st = some (LL (shiftL F m), st) := by
  have hlen := c.len
  simp [R, TL.f24, TL.b24, startE]
  rw [lc_all lD (fun f => lD (f.map (· + m))) (by omega)]
  · simp [LL, shiftL, Function.comp_def]
  · intro f hf
    have zf := (c.lot f hf).len
    have := c.n10
    refine ⟨_, rfl, by simp, ?_⟩
    simp
    rw [lc_all nD (fun x => nD (x + m)) (by omega)]
    · have e : D.lst (f.map fun x => nD (x + m)) = NL (f.map (· + m)) := by simp [NL, Function.comp_def]
      rw [e]
      simp
    · intro x hx
      exact ⟨_, rfl, by simp, by simp [nD]⟩
theorem r24p (m : Nat) : R C (TL.f24 g h) [ptD, nD m] st = some (LL [[m]], st) := by
  have h1 : (1 : Nat) ≤ LIM := by decide
  have e : ixD st ptD (.int 1) = some (.wt [.wt [.int 0]]) := rfl
  simp [R, TL.f24, TL.b24, startE, e, seqD, lcGo, setV, biD, h1]
  simp [LL, lD, nD]
theorem r25 (hc : C.consts[h 0]? = some (.int 10)) (n : Nat) (hn : n ≤ 10) : R C (TL.f25 g h) [nD n] st = some (nD n, st) := by
  have : ¬ (10 : Int) < n := by omega
  simp [R, TL.f25, TL.b25, startE, hc, this]
theorem app_lD (a b : List Nat) (h : a.length + b.length ≤ 1000000) : binD .add (lD a) (lD b) = some (lD (a ++ b)) := by
  have := bin_addT (a.map nD) (b.map nD) (by simp; omega)
  simp only [lD, List.map_append]
  exact this
theorem r26 (h25 : SLet C.call (g 25)) (h24 : SBehindP C.call (g 24)) (n : Nat) (F : List (List Nat)) (c : Cx n F) (h9 : n ≤ 9) : R C (TL.f26 g h) [cD n F, ptD] st = some (cD (n + 1) (coneL n F), st) := by
  have h2 : (2 : Nat) ≤ LIM := by decide
  have hlen := c.len
  have e0 : ixD st ptD (.int 0) = some (.int 1) := rfl
  have ea : binD .add (nD n) (.int 1) = some (nD (n + 1)) := by simp [nD]
  have hl : C.call (g 25) [nD (n + 1)] st = some (nD (n + 1), st) := h25 (n + 1) st (by omega)
  simp only [R, TL.f26, TL.b26, startE, ss_cons, s_asg, e_call, e_cons, e_nil, e_bin, e_ix, e_varT, e_cst]
  simp [e0]
  rw [show D.int ((n : Int) + 1) = nD (n + 1) by simp [nD], hl]
  simp [setV]
  rw [lcGo_flat lD (fun f => [lD (f ++ [n])]) F]
  · rw [flat_one, show (F.map fun f => lD (f ++ [n])) = (F.map (· ++ [n])).map lD by simp [Function.comp_def]]
    have z2 : (F.map (· ++ [n])).length ≤ LIM := lim_ok (by simp; omega)
    simp only [guard_some, List.length_map]
    rw [if_pos (by simpa using z2)]
    simp
    rw [show (F.map (lD ∘ fun x => x ++ [n])) = (F.map (· ++ [n])).map lD by simp [Function.comp_def], show D.lst ((F.map (· ++ [n])).map lD) = LL (F.map (· ++ [n])) from rfl]
    simp [h2]
    rfl
  · intro f hf
    have zf := (c.lot f hf).len
    refine ⟨_, rfl, by simp, ?_⟩
    simp [h24 n st]
    rw [show ([lD [n]] : List D) = [[n]].map lD from rfl, lcGo_all lD (fun e => lD (f ++ e))]
    · simp
    · intro e he
      rw [List.mem_singleton] at he
      subst he
      refine ⟨_, rfl, by simp, ?_⟩
      simp
      rw [app_lD _ _ (by simp; omega)]
      simp
theorem r27 (h25 : SLet C.call (g 25)) (h24 : SBehind C.call (g 24)) (h10 : SCxIn C.call (g 10)) (n : Nat) (F : List (List Nat)) (m : Nat) (G : List (List Nat)) (c : Cx n F) (d : Cx m G) (hnm : n + m ≤ 10) : R C (TL.f27 g h) [cD n F, cD m G] st = some (cD (n + m) (besL n F G), st) := by
  have hl := c.len
  have hl2 := d.len
  have zs : (F ++ shiftL G n).length ≤ 100000 := by simp [shiftL]; omega
  simp [R, TL.f27, TL.b27, startE, setV]
  rw [show D.int ((n : Int) + m) = nD (n + m) by simp [nD], h25 (n + m) st hnm]
  simp [h24 m G n st d]
  rw [add_LL F (shiftL G n) (by simp [shiftL]; omega)]
  simp [h10 (n + m) (F ++ shiftL G n) st (bes_lots c d) hnm zs, besL]
theorem r28 (h8 : SNeeds C.call (g 8)) (h27 : SBes C.call (g 27)) (n : Nat) (F : List (List Nat)) (m : Nat) (G : List (List Nat)) (c : Cx n F) (d : Cx m G) (hnm : n + m ≤ 10) : R C (TL.f28 g h) [cD n F, cD m G] st = some (cD (n + m) (besL n F G), st) := by
  simp [R, TL.f28, TL.b28, startE, h8 n F m G st c d, h27 n F m G st c d hnm]
theorem r29 (hc : C.consts[h 1]? = some ptD) (h7 : SNeed C.call (g 7)) (h26 : SJoinP C.call (g 26)) (n : Nat) (F : List (List Nat)) (c : Cx n F) (h9 : n ≤ 9) : R C (TL.f29 g h) [cD n F] st = some (cD (n + 1) (coneL n F), st) := by
  simp [R, TL.f29, TL.b29, startE, hc, h7 n F st c, h26 n F st c h9]
end
end Pl
end

section
set_option autoImplicit false
set_option linter.all false
set_option maxRecDepth 100000
/-! Pl9: the law's own defs: draws. -/
namespace Pl
open Mini
abbrev kL : List Nat := [108, 101, 102, 116]
abbrev kS : List Nat := [115, 101, 101, 100]
abbrev kC : List Nat := [99, 101, 108, 108, 115]
abbrev kP : List Nat := [115, 112, 111, 116]
abbrev iD (i : Int) : D := .int i
/-- the state of the draws, told by what it is made of -/
def mO (L S p : Int) (cells : List Int) : List (List Nat × D) := [(kL, .int L), (kS, .int S), (kC, .lst (cells.map iD)), (kP, .int p)]
/-- after at most B draws -/
def MO (n : Nat) (B : Nat) (st : St) : Prop := ∃ (L S : Int) (p : Nat) (cells : List Int), st[n]? = some (mO L S p cells) ∧ 0 ≤ S ∧ S < 2147483647 ∧ cells ≠ [] ∧ cells.length ≤ 1000 ∧ p ≤ B
theorem MO.mono {n B B' : Nat} {st : St} (h : MO n B st) (hb : B ≤ B') : MO n B' st := by
  obtain ⟨L, S, p, cells, h1, h2, h3, h4, h5, h6⟩ := h
  exact ⟨L, S, p, cells, h1, h2, h3, h4, h5, by omega⟩
@[simp] theorem ix_L {st : St} {n : Nat} {L S p : Int} {cells : List Int} (h : st[n]? = some (mO L S p cells)) : ixD st (.ref n) (.str kL) = some (.int L) := by simp [ixD, h, mO, lookS]
@[simp] theorem ix_S {st : St} {n : Nat} {L S p : Int} {cells : List Int} (h : st[n]? = some (mO L S p cells)) : ixD st (.ref n) (.str kS) = some (.int S) := by simp [ixD, h, mO, lookS]
@[simp] theorem ix_C {st : St} {n : Nat} {L S p : Int} {cells : List Int} (h : st[n]? = some (mO L S p cells)) : ixD st (.ref n) (.str kC) = some (.lst (cells.map iD)) := by simp [ixD, h, mO, lookS]
@[simp] theorem ix_P {st : St} {n : Nat} {L S p : Int} {cells : List Int} (h : st[n]? = some (mO L S p cells)) : ixD st (.ref n) (.str kP) = some (.int p) := by simp [ixD, h, mO, lookS]
theorem sto_L {env : Env} {st : St} {n : Nat} {L S p x : Int} {cells : List Int} (h : st[n]? = some (mO L S p cells)) : stoX env (.ref n) (.str kL) (.int x) st = some (.nx, env, st.set n (mO x S p cells)) := by
  have : (4 : Nat) < LIM := by decide
  simp [stoX, h, mO, putS, this]
theorem sto_P {env : Env} {st : St} {n : Nat} {L S p x : Int} {cells : List Int} (h : st[n]? = some (mO L S p cells)) : stoX env (.ref n) (.str kP) (.int x) st = some (.nx, env, st.set n (mO L S x cells)) := by
  have : (4 : Nat) < LIM := by decide
  simp [stoX, h, mO, putS, this]
@[simp] theorem bi_int (i : Int) : biD .int [.int i] = some (.int i) := rfl
theorem p64 : (2 : Int) ^ 64 = 18446744073709551616 := by decide
theorem bin_mul (i j : Int) (h : (-18446744073709551616 < i ∧ i < 18446744073709551616) ∨ (-18446744073709551616 < j ∧ j < 18446744073709551616)) : binD .mul (.int i) (.int j) = some (.int (i * j)) := by
  have : mulOk i j = true := by
    simp only [mulOk, Bool.or_eq_true, Bool.and_eq_true, decide_eq_true_eq, p64]
    exact h
  simp [binD, mulD, this]
theorem bin_mod (i j : Int) (h : 0 < j) : binD .mod (.int i) (.int j) = some (.int (i % j)) := by simp [binD, modD, h]
theorem bin_fdiv (i j : Int) (h : 0 < j ∧ j < 1073741824) : binD .fdiv (.int i) (.int j) = some (.int (i / j)) := by simp [binD, fdivD, h]
section
variable {C : Cfg} {bw : Bool} {env : Env} {st : St} {a b : T} {i j : Int}
theorem eI_mul (ha : evE C true a env st = some (.int i, st)) (hb : evE C true b env st = some (.int j, st)) (h : (-18446744073709551616 < i ∧ i < 18446744073709551616) ∨ (-18446744073709551616 < j ∧ j < 18446744073709551616)) : evE C bw (.bin .mul a b) env st = some (.int (i * j), st) := by
  simp [ha, hb, bin_mul i j h]
theorem eI_add (ha : evE C true a env st = some (.int i, st)) (hb : evE C true b env st = some (.int j, st)) : evE C bw (.bin .add a b) env st = some (.int (i + j), st) := by
  simp [ha, hb]
theorem eI_mod (ha : evE C true a env st = some (.int i, st)) (hb : evE C true b env st = some (.int j, st)) (h : 0 < j) : evE C bw (.bin .mod a b) env st = some (.int (i % j), st) := by
  simp [ha, hb, bin_mod i j h]
theorem eI_fdiv (ha : evE C true a env st = some (.int i, st)) (hb : evE C true b env st = some (.int j, st)) (h : 0 < j ∧ j < 1073741824) : evE C bw (.bin .fdiv a b) env st = some (.int (i / j), st) := by
  simp [ha, hb, bin_fdiv i j h]
theorem eI_int (ha : evE C true a env st = some (.int i, st)) : evE C bw (.bi .int (.cons a .nil)) env st = some (.int i, st) := by
  simp [ha]
theorem eI_var {k : Nat} (h : env[k]? = some (.sh (.int i))) : evE C bw (.var k) env st = some (.int i, st) := by
  cases bw <;> simp [h]
theorem eI_cst : evE C bw (.cst (.int i)) env st = some (.int i, st) := by simp
theorem sI_asg {k : Nat} {e : T} {d : D} {st' : St} (he : evE C false e env st = some (d, st')) (hk : k < env.length) : evS C (.asg (.var k) e) env st = some (.nx, env.set k (.sh d), st') := by
  simp [he, setV, hk]
theorem sI_par2 {k l : Nat} {x y : D} {s1 s2 : St} (na : ∀ e, a ≠ .frs e) (nb : ∀ e, b ≠ .frs e) (ha : evE C false a env st = some (x, s1)) (hb : evE C false b env s1 = some (y, s2)) (hk : k < env.length) (hl : l < env.length) :
    evS C (.par (.cons (.var k) (.cons (.var l) .nil)) (.cons a (.cons b .nil))) env st = some (.nx, (env.set k (.sh x)).set l (.sh y), s2) := by
  simp [p_sh _ _ na, p_sh _ _ nb, ha, hb, setPs, setV, hk, hl]
theorem sI_ret {e : T} {d : D} {st' : St} (hv : ∀ i, e ≠ .var i) (he : evE C false e env st = some (d, st')) : fin (evSs C (.cons (.ret e) .nil) env st) = some (d, st') := by
  rw [ss_cons, s_ret e hv, he]
  rfl
end
def SDraw (call : CallF) (k : Nat) : Prop := ∀ n B (st : St) (span : Nat), MO n B st → 0 < span → span ≤ 1000000 → B ≤ 1000000 → ∃ (r : Nat) (st' : St), r < span ∧ call k [.ref n, nD span] st = some (nD r, st') ∧ MO n (B + 1) st'
section
variable {C : Cfg} {g h : Nat → Nat} {st : St}
theorem nat_of {i : Int} {m : Nat} (h1 : 0 ≤ i) (h2 : i < m) : ∃ r : Nat, r < m ∧ i = r := ⟨i.toNat, by omega, by omega⟩
theorem r31 (n B : Nat) (st : St) (span : Nat) (hm : MO n B st) (h0 : 0 < span) (hs : span ≤ 1000000) (hB : B ≤ 1000000) : ∃ (r : Nat) (st' : St), r < span ∧ R C (TL.f31 g h) [.ref n, nD span] st = some (nD r, st') ∧ MO n (B + 1) st' := by
  obtain ⟨L, S, p, cells, e, s0, s1, c0, c1, hp⟩ := hm
  have hlt : n < st.length := (List.getElem?_eq_some_iff.mp e).1
  have hsp : (0 : Int) < span := by omega
  by_cases hL : 0 < L
  · obtain ⟨r, hr, er⟩ := nat_of (Int.emod_nonneg L (by omega : (span : Int) ≠ 0)) (Int.emod_lt_of_pos L hsp)
    refine ⟨r, st.set n (mO (L / span) S p cells), hr, ?_, L / span, S, p, cells, by simp [hlt], s0, s1, c0, c1, by omega⟩
    simp [R, TL.f31, TL.b31, startE, setV, ix_L e, hL, bin_mod _ _ hsp, bin_fdiv L span ⟨hsp, by omega⟩]
    rw [sto_L e]
    simp [er]
  · have hcl : 0 < cells.length := List.length_pos_iff.mpr c0
    obtain ⟨q, hq, eq⟩ := nat_of (Int.emod_nonneg (p : Int) (by omega : (cells.length : Int) ≠ 0)) (Int.emod_lt_of_pos (p : Int) (by omega : (0 : Int) < cells.length))
    have e2 : (st.set n (mO L S (p + 1) cells))[n]? = some (mO L S (p + 1) cells) := by simp [hlt]
    have eix : ixD (st.set n (mO L S (p + 1) cells)) (.lst (cells.map iD)) (.int ((p : Int) % cells.length)) = some (.int cells[q]) := by
      rw [eq]
      simp [ixD, place, hq, List.getElem?_eq_getElem hq]
    generalize hb1 : (cells[q] * (2 * p + 3) + (S + 40503 * p * p)) % 2147483647 = b1
    generalize hb2 : (b1 * b1 + 69621 * p + S) % 2147483629 = b2
    have g1 : 0 ≤ b1 ∧ b1 < 2147483647 := by subst hb1; exact ⟨Int.emod_nonneg _ (by omega), Int.emod_lt_of_pos _ (by omega)⟩
    have g2 : 0 ≤ b2 ∧ b2 < 2147483629 := by subst hb2; exact ⟨Int.emod_nonneg _ (by omega), Int.emod_lt_of_pos _ (by omega)⟩
    obtain ⟨r, hr, er⟩ := nat_of (Int.emod_nonneg ((b2 * 48271 + p) % 2147483647 / 11) (by omega : (span : Int) ≠ 0)) (Int.emod_lt_of_pos ((b2 * 48271 + p) % 2147483647 / 11) hsp)
    refine ⟨r, st.set n (mO L S (p + 1) cells), hr, ?_, L, S, p + 1, cells, by simpa using e2, s0, s1, c0, c1, by omega⟩
    have el : biD .len [.lst (cells.map iD)] = some (.int cells.length) := by simp [biD, lenD]
    generalize hst : st.set n (mO L S (p + 1) cells) = st2 at *
    refine fin_step (env' := [Sl.sh (.ref n), Sl.sh (nD span), .un, .un, .un, .un, .un, .un]) (st' := st) (by simp [startE, TL.f31, ix_L e, hL]) ?_
    refine fin_step (env' := [Sl.sh (.ref n), Sl.sh (nD span), Sl.sh (iD p), .un, .un, .un, .un, .un]) (st' := st) (by simp [ix_P e, setV]) ?_
    refine fin_step (env' := [Sl.sh (.ref n), Sl.sh (nD span), Sl.sh (iD p), .un, .un, .un, .un, .un]) (st' := st2) (by simp; rw [sto_P e, hst]) ?_
    refine fin_step (env' := [Sl.sh (.ref n), Sl.sh (nD span), Sl.sh (iD p), .un, .un, .un, Sl.sh (.lst (cells.map iD)), Sl.sh (iD (S + 40503 * p * p))]) (st' := st2) ?_ ?_
    · have h1 : evE C true (.bin .mul (.bin .mul (.cst (.int 40503)) (.var 2)) (.var 2)) [Sl.sh (.ref n), Sl.sh (nD span), Sl.sh (iD p), .un, .un, .un, .un, .un] st2 = some (.int (40503 * p * p), st2) := eI_mul (eI_mul eI_cst (eI_var rfl) (.inl (by omega))) (eI_var rfl) (.inr (by omega))
      have h2 : evE C true (.ix (.var 0) (.cst (.str kS))) [Sl.sh (.ref n), Sl.sh (nD span), Sl.sh (iD p), .un, .un, .un, .un, .un] st2 = some (.int S, st2) := by simp [ix_S e2]
      have h3 := eI_add (bw := false) h2 h1
      generalize (40503 * (p : Int) * p) = z at *
      exact sI_par2 (by intro e z; cases z) (by intro e z; cases z) (x := .lst (cells.map iD)) (by simp [ix_C e2]) h3 (by simp) (by simp)
    refine fin_step (sI_asg (d := iD cells[q]) (st' := st2) (by simp [el, bin_mod p cells.length (by omega), eix]) (by simp)) ?_
    refine fin_step (sI_asg (d := iD b1) (st' := st2) (by rw [← hb1]; exact eI_mod (eI_int (eI_add (eI_mul (eI_var rfl) (eI_add (eI_mul eI_cst (eI_var rfl) (.inl (by omega))) eI_cst) (.inr (by omega))) (eI_var rfl))) eI_cst (by omega)) (by simp)) ?_
    refine fin_step (sI_asg (d := iD b2) (st' := st2) (by rw [← hb2]; exact eI_mod (eI_int (eI_add (eI_add (eI_mul (eI_var rfl) (eI_var rfl) (.inl (by omega))) (eI_mul eI_cst (eI_var rfl) (.inl (by omega)))) (by simp [ix_S e2]))) eI_cst (by omega)) (by simp)) ?_
    refine sI_ret (by intro i z; cases z) ?_
    rw [show nD r = iD ((b2 * 48271 + p) % 2147483647 / 11 % span) by rw [er]]
    exact eI_mod (eI_fdiv (eI_mod (eI_int (eI_add (eI_mul (eI_var rfl) eI_cst (.inl (by omega))) (eI_var rfl))) eI_cst (by omega)) eI_cst (by omega)) (eI_var rfl) hsp
end
/-! ### the state is made, one of some things -/
def SBegun (call : CallF) (k : Nat) : Prop := ∀ (xs : List Int) (t : Nat) (st : St), xs.length ≤ 63 → t ≤ 100 → ∃ st', call k [.lst (xs.map iD), nD t] st = some (.ref st.length, st') ∧ MO st.length 0 st'
def SOf (call : CallF) (k : Nat) : Prop := ∀ n B (st : St) (xs : List D), MO n B st → 0 < xs.length → xs.length ≤ 1000000 → B ≤ 1000000 → ∃ (x : D) (st' : St), x ∈ xs ∧ call k [.ref n, .lst xs] st = some (x, st') ∧ MO n (B + 1) st'
section
variable {C : Cfg} {g h : Nat → Nat} {st : St}
theorem slcL_drop (xs : List Int) (t : Nat) : slcD (.lst (xs.map iD)) (.int t) .non = some (.lst ((xs.drop (min t xs.length)).map iD)) := by
  have h := cut_drop (xs.map iD) (min t xs.length)
  rw [List.length_map] at h
  simp [slcD, clip, h, List.map_drop]
theorem slcL_take (xs : List Int) (t : Nat) : slcD (.lst (xs.map iD)) .non (.int t) = some (.lst ((xs.take (min t xs.length)).map iD)) := by
  have h := cut_take (xs.map iD) (min t xs.length)
  simp [slcD, clip, h, List.map_take]
theorem add_IL (A B : List Int) (h : A.length + B.length ≤ 1000000) : binD .add (.lst (A.map iD)) (.lst (B.map iD)) = some (.lst ((A ++ B).map iD)) := by
  have := bin_addL (A.map iD) (B.map iD) (by simp; omega)
  simp only [List.map_append]
  exact this
@[simp] theorem bi_len_IL (A : List Int) : biD .len [.lst (A.map iD)] = some (.int A.length) := by simp [biD, lenD]
theorem r30 (xs : List Int) (t : Nat) (st : St) (hx : xs.length ≤ 63) (ht : t ≤ 100) : ∃ st', R C (TL.f30 g h) [.lst (xs.map iD), nD t] st = some (.ref st.length, st') ∧ MO st.length 0 st' := by
  have hp : binD .pow (.int 10) (.int 18) = some (.int 1000000000000000000) := by simp [binD, powD]
  generalize hc : xs.drop (min t xs.length) ++ xs.take (min t xs.length) = cells
  have zc : cells.length ≤ 126 := by subst hc; simp; omega
  generalize hgr : (xs.filter fun x => decide ((1000000000000000000 : Int) ≤ x)) = gr
  have zg : gr.length ≤ 63 := by subst hgr; exact Nat.le_trans (List.length_filter_le _ _) hx
  -- the left is the great cell, or nought
  obtain ⟨L, hL⟩ : ∃ L : Int, ((if decide ((t : Int) < gr.length) = true then ixD st (.lst (gr.map iD)) (.int t) else some (.int 0)) = some (.int L)) := by
    by_cases q : t < gr.length
    · refine ⟨gr[t], ?_⟩
      simp [q, ixD, place, List.getElem?_eq_getElem q]
    · exact ⟨0, by simp [q]⟩
  have zx : xs.length ≤ 10000000 := by omega
  have hlc : ∀ st : St, guardLen (lcGo (fun d => asgT (.var 5) d (wipeE [Sl.sh (.lst (xs.map iD)), Sl.sh (nD t), Sl.sh (.lst (cells.map iD)), .un, .un, .un] [5])) (evC C (.cons (.cmp .ge (.var 5) (.bin .pow (.cst (.int 10)) (.cst (.int 18)))) .nil)) (fun env st => one (evE C false (.var 5) env st)) (xs.map iD) st) = some (.lst (gr.map iD), st) := fun st => by
    rw [lc_map iD (fun x => decide ((1000000000000000000 : Int) ≤ x)) iD zx]
    · rw [hgr]
    · intro x hx
      refine ⟨_, rfl, ?_, by simp⟩
      simp [hp]
      by_cases q : (1000000000000000000 : Int) ≤ x <;> simp [q]
  have key : ∃ x, R C (TL.f30 g h) [.lst (xs.map iD), nD t] st = some x ∧ (x.1 = .ref st.length ∧ MO st.length 0 x.2) := by
    unfold R
    refine fin_stepZ (env' := [Sl.sh (.lst (xs.map iD)), Sl.sh (nD t), Sl.sh (.lst (cells.map iD)), .un, .un, .un]) (st' := st) ?_ ?_
    · simp only [s_asg, e_bin, e_slc, e_varT, e_cst, startE, TL.f30]
      simp [slcL_drop, slcL_take, -List.map_take, -List.map_drop, -List.drop_eq_drop_min, -List.take_eq_take_min]
      rw [add_IL _ _ (by simp; omega), hc]
      simp [setV]
    refine fin_stepZ (env' := [Sl.sh (.lst (xs.map iD)), Sl.sh (nD t), Sl.sh (.lst (cells.map iD)), Sl.sh (.lst (gr.map iD)), .un, .un]) (st' := st) ?_ ?_
    · simp only [s_asg, e_lc, e_varT]
      simp only [List.getElem?_cons_zero, slotB_sh, Option.map_some, Option.bind_some, seq_lst]
      rw [hlc st]
      simp [setV]
    refine fin_stepZ (env' := [Sl.sh (.lst (xs.map iD)), Sl.sh (nD t), Sl.sh (.lst (cells.map iD)), Sl.sh (.lst (gr.map iD)), Sl.sh (iD (91 + t)), .un]) (st' := st) (by simp [setV]) ?_
    rw [ss_cons, s_for]
    simp only [e_varF, List.getElem?_cons_zero, List.getElem?_cons_succ, slotV_sh, Option.map_some, Option.bind_some, seq_lst]
    refine for_finZ iD (fun (_ : Unit) env s => ∃ S v5, 0 ≤ S ∧ S < 2147483647 ∧ env = [Sl.sh (.lst (xs.map iD)), Sl.sh (nD t), Sl.sh (.lst (cells.map iD)), Sl.sh (.lst (gr.map iD)), Sl.sh (iD S), v5] ∧ s = st) (fun _ _ => ()) () ⟨91 + t, _, by omega, by omega, rfl, rfl⟩ ?_ ?_
    · rintro _ x env s hx ⟨S, v5, h0, h1, rfl, rfl⟩
      refine ⟨[Sl.sh (.lst (xs.map iD)), Sl.sh (nD t), Sl.sh (.lst (cells.map iD)), Sl.sh (.lst (gr.map iD)), Sl.sh (iD ((S * 48271 + x) % 2147483647)), Sl.sh (iD x)], s, ?_, _, _, Int.emod_nonneg _ (by omega), Int.emod_lt_of_pos _ (by omega), rfl, rfl⟩
      simp [setV, bin_mul S 48271 (.inr (by omega)), bin_mod _ 2147483647 (by omega)]
    · rintro env s ⟨S, v5, h0, h1, rfl, rfl⟩
      refine ⟨(.ref s.length, s ++ [mO L S 0 (cells ++ [61 * (t : Int) + 17])]), ?_, rfl, L, S, 0, cells ++ [61 * (t : Int) + 17], by simp, h0, h1, by simp, by simp; omega, Nat.le_refl _⟩
      have hl1 : (1 : Nat) ≤ LIM := by decide
      have hadd : binD .add (.lst (cells.map iD)) (.lst [.int (61 * (t : Int) + 17)]) = some (.lst ((cells ++ [61 * (t : Int) + 17]).map iD)) := add_IL cells [61 * (t : Int) + 17] (by simp; omega)
      have hif : (if decide ((t : Int) < gr.length) = true then (ixD s (.lst (gr.map iD)) (.int t)).map (fun x => (x, s)) else some (.int 0, s)) = some (.int L, s) := by
        by_cases q : decide ((t : Int) < gr.length) = true
        · rw [if_pos q] at hL ⊢; rw [hL]; rfl
        · rw [if_neg q] at hL ⊢; cases hL; rfl
      simp [thenX, hl1, bin_mul 61 t (.inl (by omega)), hadd]
      simp at hif
      rw [hif]
      simp [mO]
  obtain ⟨⟨d, st'⟩, e, rfl, hm⟩ := key
  exact ⟨st', e, hm⟩
theorem r32 (h31 : SDraw C.call (g 31)) (n B : Nat) (st : St) (xs : List D) (hm : MO n B st) (h0 : 0 < xs.length) (h1 : xs.length ≤ 1000000) (hB : B ≤ 1000000) : ∃ (x : D) (st' : St), x ∈ xs ∧ R C (TL.f32 g h) [.ref n, .lst xs] st = some (x, st') ∧ MO n (B + 1) st' := by
  obtain ⟨r, st', hr, e, hm'⟩ := h31 n B st xs.length hm h0 h1 hB
  have el : biD .len [.lst xs] = some (nD xs.length) := by simp [biD, lenD]
  refine ⟨xs[r], st', List.getElem_mem hr, ?_, hm'⟩
  simp [R, TL.f32, TL.b32, startE, el, e]
  simp [ixD, place, nD, hr, List.getElem?_eq_getElem hr]
end
end Pl
end

section
set_option autoImplicit false
set_option linter.all false
set_option maxRecDepth 100000
/-! PlA: the law's own defs: lots, faces, walls, misses. -/
namespace Pl
open Mini
def SLLies (call : CallF) (k : Nat) : Prop := ∀ a b st, a.length ≤ 100000 → call k [lD a, lD b] st = some (.bl (subB a b), st)
def SLGreat (call : CallF) (k : Nat) : Prop := ∀ n F st, (∀ f ∈ F, Lot n f) → n ≤ 10 → F.length < 64 → call k [LL F] st = some (LT (maxs F), st)
def cntL (F : List (List Nat)) (w : List Nat) : Nat := (F.filter fun f => decide (f.length = w.length + 1) && subB w f).length
def lessR (F : List (List Nat)) : D := .tup (((faces F).filter fun w => decide (0 < cntL F w)).map fun w => wlD w (cntL F w))
def SLOne (call : CallF) (k : Nat) : Prop := ∀ n F st, Cx n F → call k [cD n F] st = some (lessR F, st)
def lmP (F E : List (List Nat)) (x : List Nat) : Bool := (E.filter fun y => decide (y ≠ x) && subB y x).isEmpty
def lMissL (n : Nat) (F : List (List Nat)) : List (List Nat) := srtB ltL (((subs (List.range n)).filter fun x => !decide (x ∈ faces F)).filter (lmP F ((subs (List.range n)).filter fun x => !decide (x ∈ faces F))))
def SLMiss (call : CallF) (k : Nat) : Prop := ∀ n F st, Cx n F → call k [cD n F] st = some (LT (lMissL n F), st)
def SLike (call : CallF) (k : Nat) : Prop := ∀ d st, plain d = true → depth d ≤ 60 → showD d = true → wD d ≤ 1000000 → call k [d, d] st = some (.bl true, st)
theorem app_ow {a : Env} {i : Nat} {x : D} {st : St} {xs : List D} (h : a[i]? = some (.ow (.lst xs))) (hz : xs.length < LIM) : appX a i x st = some (.nx, a.set i (.ow (.lst (xs ++ [x]))), st) := by simp [appX, h, hz]
/-! ### small facts -/
theorem plains_ones {α : Type} (l : List α) : plains (l.map fun _ => D.int 1) = true := plains_map (fun _ => D.int 1) (fun _ => rfl) l
theorem depths_ones {α : Type} (l : List α) : depths (l.map fun _ => D.int 1) ≤ 0 := depths_map (fun _ => D.int 1) 0 (fun _ => by simp [depth]) l
theorem eq_ones {α : Type} (l : List α) : cmpD .eq (.lst (l.map fun _ => D.int 1)) (.lst []) = some l.isEmpty := by
  have h1 : shallow (.lst (l.map fun _ => D.int 1)) = true := shallow_of (k := 1) (by simp [plain, plains_ones]) (by have := depths_ones l; simp only [depth]; omega) (by decide)
  have h2 : shallow (.lst []) = true := by decide
  simp only [cmpD, eqC, h1, h2, Bool.and_self, if_true]
  cases l <;> simp [eqD, eqDs]
theorem ne_ones {α : Type} (l : List α) : cmpD .ne (.lst (l.map fun _ => D.int 1)) (.lst []) = some (!l.isEmpty) := by
  have := eq_ones l
  simp only [cmpD, Option.map_eq_some_iff] at this ⊢
  rw [this]
  simp
@[simp] theorem ne_lD (a b : List Nat) : cmpD .ne (lD a) (lD b) = some (decide (a ≠ b)) := by
  simp [cmpD, eqC]
theorem iso_sub (a b : List Nat) : (a.filter fun x => !decide (x ∈ b)).isEmpty = subB a b := by
  unfold subB
  induction a with
  | nil => rfl
  | cons x a ih => by_cases q : x ∈ b <;> simp_all
section
variable {C : Cfg} {g h : Nat → Nat} {st : St}
theorem r34 (l : List Nat) (hl : l.length ≤ 10) : R C (TL.f34 g h) [lD l] st = some (LL (subs l), st) := r11 (g := g) (h := h) l hl
theorem r35 (a b : List Nat) (hl : a.length ≤ 100000) : R C (TL.f35 g h) [lD a, lD b] st = some (.bl (subB a b), st) := by
  have h0 : (0 : Nat) ≤ LIM := by decide
  simp [R, TL.f35, TL.b35, startE]
  rw [lc_map nD (fun x => !decide (x ∈ b)) (fun _ => .int 1) (by omega)]
  · simp only [Option.bind_some, eq_ones, iso_sub, Option.map_some]
    simp
  · intro x hx
    refine ⟨_, rfl, ?_, by simp⟩
    simp
    by_cases q : x ∈ b <;> simp [q]
/-! ### sets -/
def nubL : List (List Nat) → List (List Nat)
  | [] => []
  | z :: r => z :: (nubL r).filter fun y => decide (¬ z = y)
theorem nub_lD : ∀ zs : List (List Nat), nubD (zs.map lD) = (nubL zs).map lD
  | [] => rfl
  | z :: r => by
    simp only [List.map_cons, nubD, nubL, nub_lD r, List.filter_map]
    congr 2
    refine List.filter_congr fun y _ => ?_
    simp only [Function.comp, eqD_lD]
    by_cases h : z = y <;> simp [h]
theorem nubL_mem : ∀ {zs : List (List Nat)} {y : List Nat}, y ∈ nubL zs ↔ y ∈ zs
  | [], y => by simp [nubL]
  | z :: r, y => by
    simp only [nubL, List.mem_cons, List.mem_filter, nubL_mem (zs := r), decide_eq_true_eq]
    constructor
    · rintro (h | h)
      · exact .inl h
      · exact .inr h.1
    · rintro (h | h)
      · exact .inl h
      · by_cases q : z = y
        · exact .inl q.symm
        · exact .inr ⟨h, q⟩
theorem nubL_nodup : ∀ zs : List (List Nat), (nubL zs).Nodup
  | [] => List.nodup_nil
  | z :: r => by
    simp only [nubL, List.nodup_cons, List.mem_filter, decide_eq_true_eq]
    refine ⟨fun h => ?_, List.Pairwise.filter _ (nubL_nodup r)⟩
    simp at h
theorem nubL_len : ∀ zs : List (List Nat), (nubL zs).length ≤ zs.length
  | [] => Nat.le_refl _
  | z :: r => by
    have h1 := nubL_len r
    have h2 := List.length_filter_le (fun y => decide (¬ z = y)) (nubL r)
    simp only [nubL, List.length_cons]
    omega
theorem bi_set (F : List (List Nat)) (h : F.length < 64) : biD .sortedSet [LL F] = some (LL (srtB ltL (nubL F))) := by
  show (if (F.map lD).all isIntTup && decide ((F.map lD).length < 64) then some (D.lst (sortD (nubD (F.map lD)))) else none) = _
  rw [allTup, nub_lD, sort_LL]
  simp [h, LL]
theorem r36 (h35 : SLLies C.call (g 35)) (n : Nat) (F : List (List Nat)) (hl : ∀ f ∈ F, Lot n f) (hn : n ≤ 10) (hz : F.length < 64) : R C (TL.f36 g h) [LL F] st = some (LT (maxs F), st) := by
  have h0 : (0 : Nat) ≤ LIM := by decide
  simp [R, TL.f36, TL.b36, startE, setV, ownable, bi_set F hz]
  have hnl := nubL_len F
  refine inv_fin lD (fun rem env s => ∃ pre v2 v3, pre ++ rem = srtB ltL (nubL F) ∧ env = [Sl.sh (LL F), Sl.ow (LL (pre.filter (isMax F))), v2, v3] ∧ s = st) ⟨[], _, _, rfl, rfl, rfl⟩ ?_ ?_
  · rintro x rem env s ⟨pre, v2, v3, e, rfl, rfl⟩
    have hx : x ∈ F := by
      have : x ∈ srtB ltL (nubL F) := by rw [← e]; simp
      rw [srtB_mem, nubL_mem] at this
      exact this
    have zx : x.length ≤ 10 := Nat.le_trans (hl x hx).len hn
    have hp : pre.length ≤ 64 := by have := congrArg List.length e; simp [srtB_length] at this; omega
    have hfp := List.length_filter_le (isMax F) pre
    refine ⟨[Sl.sh (LL F), Sl.ow (LL ((pre ++ [x]).filter (isMax F))), Sl.sh (lD x), v3], s, ?_, ⟨pre ++ [x], _, _, by simp [e], rfl, rfl⟩⟩
    simp [setV]
    rw [lc_map lD (fun y => decide (x ≠ y) && subB x y) (fun _ => .int 1) (by omega)]
    · have em : (F.filter fun y => decide (x ≠ y) && subB x y).isEmpty = isMax F x := by
        rw [Bool.eq_iff_iff, isMax_iff, List.isEmpty_iff, List.filter_eq_nil_iff]
        constructor
        · intro h y hy hs
          have := h y hy
          simp [hs] at this
          exact this
        · intro h y hy
          simp
          intro hne
          cases q : subB x y with
          | false => rfl
          | true => exact absurd (h y hy q) hne
      simp only [Option.bind_some, eq_ones, em, Option.map_some, tru_bl]
      cases q : isMax F x with
      | true =>
        simp
        rw [app_LL (L := pre.filter (isMax F)) rfl (by omega)]
        simp [List.filter_append, q]
      | false => simp [List.filter_append, q]
    · intro y hy
      refine ⟨_, rfl, ?_, by simp⟩
      simp
      by_cases q : x = y
      · simp [q]
      · simp [q, h35 x y s (by omega)]
        cases subB x y <;> rfl
  · rintro env s ⟨pre, v2, v3, e, rfl, rfl⟩
    simp at e
    subst e
    simp
    congr 1
    refine maxs_eq ((srtB_asc ordL (nubL_nodup F)).filter _) fun x => ?_
    rw [List.mem_filter, srtB_mem, nubL_mem, isMax_iff]
theorem r37 (h34 : SSubs C.call (g 34)) (n : Nat) (F : List (List Nat)) (c : Cx n F) : R C (TL.f37 g h) [cD n F] st = some (LL (faces F), st) := r12 (g := fun k => if k = 11 then g 34 else g k) (h := h) h34 n F c
theorem r39 (h37 : SFaces C.call (g 37)) (h35 : SLLies C.call (g 35)) (n : Nat) (F : List (List Nat)) (c : Cx n F) : R C (TL.f39 g h) [cD n F] st = some (lessR F, st) := by
  have h2 : (2 : Nat) ≤ LIM := by decide
  have hlen := c.len
  have hfl := faces_len c
  simp [R, TL.f39, TL.b39, startE, setV, ownable, h37 n F st c]
  rw [show Sl.ow (D.lst []) = Sl.ow (D.lst ((([] : List (List Nat)).filter fun w => decide (0 < cntL F w)).map fun w => wlD w (cntL F w))) from rfl]
  refine inv_fin lD (fun rem env s => ∃ pre v2 v3 v4, pre ++ rem = faces F ∧ env = [Sl.sh (cD n F), Sl.ow (D.lst ((pre.filter fun w => decide (0 < cntL F w)).map fun w => wlD w (cntL F w))), v2, v3, v4] ∧ s = st) ⟨[], _, _, _, rfl, rfl, rfl⟩ ?_ ?_
  · rintro x rem env s ⟨pre, v2, v3, v4, e, rfl, rfl⟩
    have hx : x ∈ faces F := by rw [← e]; simp
    obtain ⟨f, hf, hs⟩ := faces_mem.mp hx
    have zx : x.length ≤ 10 := by have := hs.length_le; have := (c.lot f hf).len; have := c.n10; omega
    have hp : pre.length ≤ 1024 * 1024 := by have := congrArg List.length e; simp at this; omega
    have hfp := List.length_filter_le (fun w => decide (0 < cntL F w)) pre
    have hfp2 : ((pre.filter fun w => decide (0 < cntL F w)).map fun w => wlD w (cntL F w)).length < LIM := by
      rw [List.length_map]
      exact Nat.lt_of_le_of_lt (Nat.le_trans hfp hp) (by decide)
    refine ⟨[Sl.sh (cD n F), Sl.ow (D.lst (((pre ++ [x]).filter fun w => decide (0 < cntL F w)).map fun w => wlD w (cntL F w))), Sl.sh (lD x), Sl.sh (nD (cntL F x)), v4], s, ?_, ⟨pre ++ [x], _, _, _, by simp [e], rfl, rfl⟩⟩
    simp [setV]
    rw [lc_map lD (fun f => decide (f.length = x.length + 1) && subB x f) (fun _ => .int 1) (by omega)]
    · have el : biD .len [D.lst ((F.filter fun f => decide (f.length = x.length + 1) && subB x f).map fun _ => D.int 1)] = some (nD (cntL F x)) := by simp [biD, lenD, cntL]
      simp [el]
      by_cases q : 0 < cntL F x
      · simp [q]
        rw [if_pos h2]
        simp only [Option.bind_some]
        rw [app_ow (xs := (pre.filter fun w => decide (0 < cntL F w)).map fun w => wlD w (cntL F w)) rfl hfp2]
        simp [h2, List.filter_append, q]
        rfl
      · simp [q, List.filter_append]
    · intro y hy
      refine ⟨_, rfl, ?_, by simp⟩
      simp
      by_cases q : y.length = x.length + 1
      · have q' : (y.length : Int) = x.length + 1 := by omega
        simp [q, h35 x y s (by omega)]
        cases subB x y <;> rfl
      · have q' : ¬ (y.length : Int) = x.length + 1 := by omega
        simp [q, q']
  · rintro env s ⟨pre, v2, v3, v4, e, rfl, rfl⟩
    simp at e
    subst e
    simp [biD, lessR]
theorem lmP_iff {F E : List (List Nat)} {x : List Nat} : lmP F E x = true ↔ ∀ a, a ∈ E → ¬ a = x → subB a x = false := by
  simp [lmP, List.isEmpty_iff, List.filter_eq_nil_iff]
theorem r41 (h37 : SFaces C.call (g 37)) (h34 : SSubs C.call (g 34)) (h35 : SLLies C.call (g 35)) (n : Nat) (F : List (List Nat)) (c : Cx n F) : R C (TL.f41 g h) [cD n F] st = some (LT (lMissL n F), st) := by
  have hn := c.n10
  have hs : (subs (List.range n)).length ≤ 1024 := by
    rw [subs_len, List.length_range]
    exact Nat.pow_le_pow_right (by decide) hn (n := 2)
  have hE := List.length_filter_le (fun x => !decide (x ∈ faces F)) (subs (List.range n))
  have zE : ∀ x ∈ (subs (List.range n)).filter (fun x => !decide (x ∈ faces F)), x.length ≤ 10 := fun x hx => by
    have := (subs_mem.mp (List.mem_filter.mp hx).1).length_le
    simp at this
    omega
  simp [R, TL.f41, TL.b41, startE, setV, h37 n F st c, rng_nD n st (by omega), h34 (List.range n) st (by simpa using hn)]
  rw [lc_map lD (fun x => !decide (x ∈ faces F)) lD (by omega)]
  · generalize hEE : (subs (List.range n)).filter (fun x => !decide (x ∈ faces F)) = E at *
    rw [show D.lst (E.map lD) = LL E from rfl]
    simp
    rw [lc_map lD (lmP F E) lD (by omega)]
    · rw [show D.lst ((E.filter (lmP F E)).map lD) = LL (E.filter (lmP F E)) from rfl]
      simp [lMissL, hEE]
    · intro x hx
      refine ⟨_, rfl, ?_, by simp⟩
      simp
      rw [lc_map lD (fun y => decide (y ≠ x) && subB y x) (fun _ => .int 1) (by omega)]
      · have h0 : (0 : Nat) ≤ LIM := by decide
        simp only [Option.bind_some]
        simp [h0, eq_ones]
        have em := lmP_iff (F := F) (E := E) (x := x)
        cases q : lmP F E x with
        | true => rw [if_pos (em.mp q)]
        | false => rw [if_neg fun z => by rw [em.mpr z] at q; cases q]
      · intro y hy
        refine ⟨_, rfl, ?_, by simp⟩
        simp
        by_cases q : y = x
        · simp [q]
        · simp [q, h35 y x st (by have := zE y hy; omega)]
          cases subB y x <;> rfl
  · intro x hx
    refine ⟨_, rfl, ?_, by simp⟩
    simp
    by_cases q : x ∈ faces F <;> simp [q]
/-! ### told and due -/
mutual
theorem eqD_refl : ∀ d : D, plain d = true → eqD d d = true
  | .non, _ => rfl
  | .bl b, _ => by simp [eqD]
  | .int i, _ => by simp [eqD]
  | .str s, _ => by simp [eqD]
  | .tup xs, h => by simp only [eqD]; exact eqDs_refl xs (by simpa [plain] using h)
  | .lst xs, h => by simp only [eqD]; exact eqDs_refl xs (by simpa [plain] using h)
  | .wt xs, h => by simp only [eqD]; exact eqDs_refl xs (by simpa [plain] using h)
  | .dct _, h => by simp [plain] at h
  | .set _, h => by simp [plain] at h
  | .ref _, h => by simp [plain] at h
  | .fn _, h => by simp [plain] at h
theorem eqDs_refl : ∀ ds : List D, plains ds = true → eqDs ds ds = true
  | [], _ => rfl
  | d :: r, h => by
    simp only [plains, Bool.and_eq_true] at h
    simp only [eqDs, eqD_refl d h.1, eqDs_refl r h.2, Bool.and_self]
end
theorem r33 (d : D) (h1 : plain d = true) (h2 : depth d ≤ 60) (h3 : showD d = true) (h4 : wD d ≤ 1000000) : R C (TL.f33 g h) [d, d] st = some (.bl true, st) := by
  have hs : shallow d = true := by simp [shallow, h1, h2]
  have hr : biD .repr [d] = some (.str (reprD d)) := by
    show (if shallow d && showD d && decide (wD d ≤ 1000000) then some (D.str (reprD d)) else none) = _
    simp [hs, h3, h4]
  have e1 : cmpD .eq d d = some true := by simp [cmpD, eqC, hs, eqD_refl d h1]
  have e2 : ∀ s : List Nat, cmpD .eq (.str s) (.str s) = some true := fun s => by
    have : shallow (.str s) = true := by simp [shallow, plain, depth]
    simp [cmpD, eqC, this, eqD]
  simp [R, TL.f33, TL.b33, startE, e1, hr, e2]
end
end Pl
end

section
set_option autoImplicit false
set_option linter.all false
set_option maxRecDepth 100000
/-! PlB: a drawn complex. -/
namespace Pl
open Mini
def SSome (call : CallF) (k : Nat) : Prop := ∀ n B (st : St) (most : Nat), MO n B st → 1 ≤ most → most ≤ 10 → B ≤ 900000 → ∃ (w : Nat) (F : List (List Nat)) (st' : St), w ≤ most ∧ Cx w F ∧ call k [.ref n, nD most] st = some (cD w F, st') ∧ MO n (B + 1000) st'
section
variable {C : Cfg} {g h : Nat → Nat} {st : St}
theorem eE_call1 {f k : Nat} {bw : Bool} {env : Env} {st st' : St} {a b : D} {r : D} {c : Int} (ha : env[k]? = some (.sh a)) (hb : C.call f [a, .int c] st = some (r, st')) : evE C bw (.call f (.cons (.var k) (.cons (.cst (.int c)) .nil))) env st = some (r, st') := by
  simp [ha, hb]
theorem eN_add1 {a : T} {bw : Bool} {env : Env} {st st' : St} {r : Nat} (ha : evE C true a env st = some (nD r, st')) : evE C bw (.bin .add (.cst (.int 1)) a) env st = some (nD (r + 1), st') := by
  have w : (1 : Int) + r = ((r + 1 : Nat) : Int) := by omega
  rw [e_bin, e_cst]
  simp only [Option.bind_some]
  rw [ha]
  simp only [Option.bind_some, nD, bin_add, Option.map_some, w]
theorem e_rngN {a : T} {bw : Bool} {env : Env} {st st' : St} {n : Nat} (ha : evE C true a env st = some (nD n, st')) (hn : n ≤ 1000000) : evE C bw (.rng1 a) env st = some (NL (List.range n), st') := by
  rw [e_rng1, ha]
  exact rng_nD n st' hn
theorem eT_tuple {a : T} {bw : Bool} {env : Env} {st st' : St} {l : List Nat} (ha : evE C true a env st = some (NL l, st')) : evE C bw (.bi .tuple (.cons a .nil)) env st = some (lD l, st') := by
  simp [ha]
theorem sI_app {a : T} {i : Nat} {env : Env} {st st' : St} {l : List Nat} {F : List (List Nat)} (ha : evE C false a env st = some (lD l, st')) (h : env[i]? = some (.ow (LL F))) (hz : F.length ≤ 10000000) : evS C (.app i a) env st = some (.nx, env.set i (.ow (LL (F ++ [l]))), st') := by
  rw [s_app, ha]
  exact app_LL h hz
theorem turn1 {tg s : T} {d : D} {env env1 env2 : Env} {st st2 : St} (h1 : asgT tg d env = some env1) (h2 : evS C s env1 st = some (.nx, env2, st2)) : ((asgT tg d env).bind fun env' => evSs C (.cons s .nil) env' st) = some (.nx, env2, st2) := by
  rw [h1]
  simp [h2]
theorem lot_range {w : Nat} {l : List Nat} (h : l.Sublist (List.range w)) : Lot w l := ⟨List.Pairwise.sublist h List.pairwise_lt_range, fun x hx => List.mem_range.mp (h.subset hx)⟩
theorem r38 (h31 : SDraw C.call (g 31)) (h32 : SOf C.call (g 32)) (h36 : SLGreat C.call (g 36)) (n B : Nat) (st : St) (most : Nat) (hm : MO n B st) (h1 : 1 ≤ most) (h10 : most ≤ 10) (hB : B ≤ 900000) :
    ∃ (w : Nat) (F : List (List Nat)) (st' : St), w ≤ most ∧ Cx w F ∧ R C (TL.f38 g h) [.ref n, nD most] st = some (cD w F, st') ∧ MO n (B + 1000) st' := by
  have l0 : (0 : Nat) ≤ LIM := by decide
  have l1 : (1 : Nat) ≤ LIM := by decide
  have l2 : (2 : Nat) ≤ LIM := by decide
  obtain ⟨r0, s0, hr0, e0, m0⟩ := h31 n B st most hm (by omega) (by omega) (by omega)
  obtain ⟨r1, s1, hr1, e1, m1⟩ := h31 n (B + 1) s0 16 m0 (by omega) (by omega) (by omega)
  have e1 : C.call (g 31) [.ref n, .int 16] s0 = some (nD r1, s1) := e1
  suffices hs : ∃ x, fin (evSs C (TL.f38 g h).body (startE (TL.f38 g h) [.ref n, nD most]) st) = some x ∧ ∃ w F, w ≤ most ∧ Cx w F ∧ x.1 = cD w F ∧ MO n (B + 1000) x.2 by
    obtain ⟨⟨d, st'⟩, e, w, F, a1, a2, a3, a4⟩ := hs
    exact ⟨w, F, st', a1, a2, by rw [← a3]; exact e, a4⟩
  refine fin_stepZ (env' := [Sl.sh (.ref n), Sl.sh (nD most), Sl.sh (nD (r0 + 1)), .un, .un, .un]) (st' := s0) ?_ ?_
  · exact sI_asg (eN_add1 (by simp [startE, TL.f38, e0])) (by simp [startE, TL.f38])
  by_cases q : r1 = 0
  · -- nothing or the empty lot
    obtain ⟨x, s2, hx, e2, m2⟩ := h32 n (B + 2) s1 [.tup [], .tup [.tup []]] m1 (by simp) (by simp) (by omega)
    have hF : ∃ F : List (List Nat), x = LT F ∧ Cx (r0 + 1) F := by
      simp only [List.mem_cons, List.not_mem_nil, or_false] at hx
      rcases hx with rfl | rfl
      · exact ⟨[], rfl, by omega, by omega, by simp, .nil, by simp⟩
      · exact ⟨[[]], rfl, by omega, by omega, fun f hf => by simp at hf; subst hf; exact ⟨.nil, by simp⟩, by simp, fun f hf e he _ => by simp at hf he; rw [hf, he]⟩
    obtain ⟨F, rfl, c⟩ := hF
    refine ⟨(cD (r0 + 1) F, s2), ?_, r0 + 1, F, by omega, c, rfl, m2.mono (by omega)⟩
    simp [e1, q, l0, l1, l2, e2, cD]
  · refine fin_stepZ (env' := [Sl.sh (.ref n), Sl.sh (nD most), Sl.sh (nD (r0 + 1)), .un, .un, .un]) (st' := s1) ?_ ?_
    · simp [e1, q]
    refine fin_stepZ (env' := [Sl.sh (.ref n), Sl.sh (nD most), Sl.sh (nD (r0 + 1)), Sl.ow (LL []), .un, .un]) (st' := s1) ?_ ?_
    · simp [l0, ownable, setV, LL]
    obtain ⟨r2, s2, hr2, e2, m2⟩ := h31 n (B + 2) s1 6 m1 (by omega) (by omega) (by omega)
    have e2 : C.call (g 31) [.ref n, .int 6] s1 = some (nD r2, s2) := e2
    rw [ss_cons, s_for]
    have hit : evE C false (.rng1 (.bin .add (.cst (.int 1)) (.call (g 31) (.cons (.var 0) (.cons (.cst (.int 6)) .nil))))) [Sl.sh (.ref n), Sl.sh (nD most), Sl.sh (nD (r0 + 1)), Sl.ow (LL []), .un, .un] s1 = some (NL (List.range (r2 + 1)), s2) := by
      exact e_rngN (eN_add1 (by simp [e2])) (by omega)
    rw [hit]
    simp only [Option.bind_some, seq_NL]
    refine inv_finZ nD (fun rem env s => ∃ pre F v4 v5, pre ++ rem = List.range (r2 + 1) ∧ F.length = pre.length ∧ (∀ f ∈ F, Lot (r0 + 1) f) ∧ env = [Sl.sh (.ref n), Sl.sh (nD most), Sl.sh (nD (r0 + 1)), Sl.ow (LL F), v4, v5] ∧ MO n (B + 3 + 20 * pre.length) s) ⟨[], [], _, _, rfl, rfl, by simp, rfl, m2⟩ ?_ ?_
    · rintro x rem env s ⟨pre, F, v4, v5, e, hFl, hF, rfl, m⟩
      have hp : pre.length ≤ 5 := by have := congrArg List.length e; simp at this; omega
      obtain ⟨l', s', el, mi, hsub⟩ := lcGo_st nD (asg := fun d => asgT (.var 5) d (wipeE [Sl.sh (.ref n), Sl.sh (nD most), Sl.sh (nD (r0 + 1)), Sl.ow (LL F), Sl.sh (nD x), v5] [5]))
        (test := evC C (.cons (.cmp .lt (.call (g 31) (.cons (.var 0) (.cons (.cst (.int 5)) .nil))) (.bin .add (.cst (.int 2)) (.call (g 31) (.cons (.var 0) (.cons (.cst (.int 2)) .nil))))) .nil)) (elt := fun env st => one (evE C false (.var 5) env st))
        (fun rem2 s => rem2.length ≤ r0 + 1 ∧ MO n (B + 3 + 20 * pre.length + 2 * (r0 + 1 - rem2.length)) s) nD (List.range (r0 + 1)) s ⟨by simp, by simpa using m⟩ (by
          rintro y rem2 s ⟨hl, m⟩
          simp only [List.length_cons] at hl m
          obtain ⟨r3, s3, hr3, e3, m3⟩ := h31 n _ s 5 m (by omega) (by omega) (by omega)
          obtain ⟨r4, s4, hr4, e4, m4⟩ := h31 n _ s3 2 m3 (by omega) (by omega) (by omega)
          have e3 : C.call (g 31) [.ref n, .int 5] s = some (nD r3, s3) := e3
          have e4 : C.call (g 31) [.ref n, .int 2] s3 = some (nD r4, s4) := e4
          refine ⟨_, decide ((r3 : Int) < 2 + r4), s4, rfl, ?_, ⟨by omega, m4.mono (by omega)⟩, fun _ => by simp⟩
          simp [e3, e4]
          by_cases z : (r3 : Int) < 2 + r4 <;> simp [z])
      have hlot : Lot (r0 + 1) l' := lot_range hsub
      have zl : l'.length ≤ 10 := by have := hlot.len; omega
      refine ⟨[Sl.sh (.ref n), Sl.sh (nD most), Sl.sh (nD (r0 + 1)), Sl.ow (LL (F ++ [l'])), Sl.sh (nD x), v5], s', ?_, pre ++ [x], F ++ [l'], _, _, by simp [e], by simp [hFl], fun f hf => ?_, rfl, mi.2.mono (by simp; omega)⟩
      · have zl2 : (l'.map nD).length ≤ LIM := lim_ok (by simp; omega)
        have hlc : evE C true (.lc [5] (.var 5) (.var 5) (.rng1 (.var 2)) (.cons (.cmp .lt (.call (g 31) (.cons (.var 0) (.cons (.cst (.int 5)) .nil))) (.bin .add (.cst (.int 2)) (.call (g 31) (.cons (.var 0) (.cons (.cst (.int 2)) .nil))))) .nil)) [Sl.sh (.ref n), Sl.sh (nD most), Sl.sh (nD (r0 + 1)), Sl.ow (LL F), Sl.sh (nD x), v5] s = some (NL l', s') := by
          rw [e_lc, e_rngN (n := r0 + 1) (st' := s) (by simp) (by omega)]
          simp only [Option.bind_some, seq_NL]
          rw [el, guard_some, if_pos zl2]
          rfl
        exact turn1 (env1 := [Sl.sh (.ref n), Sl.sh (nD most), Sl.sh (nD (r0 + 1)), Sl.ow (LL F), Sl.sh (nD x), v5]) rfl (sI_app (F := F) (eT_tuple hlc) rfl (by omega))
      · rcases List.mem_append.mp hf with hf | hf
        · exact hF f hf
        · rw [List.mem_singleton] at hf
          subst hf
          exact hlot
    · rintro env s ⟨pre, F, v4, v5, e, hFl, hF, rfl, m⟩
      have hp : pre.length ≤ 6 := by have := congrArg List.length e; simp at this; omega
      refine ⟨(cD (r0 + 1) (maxs F), s), ?_, r0 + 1, maxs F, by omega, maxs_cx (by omega) (by omega) hF, rfl, m.mono (by omega)⟩
      simp [fzX, h36 (r0 + 1) F s hF (by omega) (by omega), l2, cD]
end
end Pl
end

section
set_option autoImplicit false
set_option linter.all false
set_option maxRecDepth 100000
/-! PlC: parts. -/
namespace Pl
open Mini
/-! ### what hangs together -/
def Adj (F : List (List Nat)) (x y : Nat) : Prop := ∃ f ∈ F, x ∈ f ∧ y ∈ f
inductive Reach (F : List (List Nat)) (p : Nat) : Nat → Prop
  | refl : Reach F p p
  | step {x y : Nat} : Reach F p x → Adj F x y → Reach F p y
theorem Adj.symm {F : List (List Nat)} {x y : Nat} (h : Adj F x y) : Adj F y x := let ⟨f, a, b, c⟩ := h; ⟨f, a, c, b⟩
theorem Reach.trans {F : List (List Nat)} {p q r : Nat} (h1 : Reach F p q) (h2 : Reach F q r) : Reach F p r := by
  induction h2 with
  | refl => exact h1
  | step _ a ih => exact .step ih a
theorem Reach.symm {F : List (List Nat)} {p q : Nat} (h : Reach F p q) : Reach F q p := by
  induction h with
  | refl => exact .refl
  | step _ a ih => exact Reach.trans (.step .refl a.symm) ih
/-- one round -/
def rnd (F : List (List Nat)) (x : Nat) (found : List Nat) : List Nat := F.foldl (fun acc f => if x ∈ f then acc ++ f.filter (fun o => !decide (o ∈ acc)) else acc) found
def spGo (F : List (List Nat)) : Nat → Nat → List Nat → List Nat
  | 0, _, found => found
  | k + 1, i, found => if h : i < found.length then spGo F k (i + 1) (rnd F found[i] found) else found
theorem rnd_cons (f : List Nat) (F : List (List Nat)) (x : Nat) (found : List Nat) : rnd (f :: F) x found = rnd F x (if x ∈ f then found ++ f.filter (fun o => !decide (o ∈ found)) else found) := rfl
theorem rnd_pre (x : Nat) : ∀ (F : List (List Nat)) (found : List Nat), ∃ e, rnd F x found = found ++ e
  | [], found => ⟨[], by simp [rnd]⟩
  | f :: F, found => by
    rw [rnd_cons]
    by_cases q : x ∈ f
    · obtain ⟨e, h⟩ := rnd_pre x F (found ++ f.filter fun o => !decide (o ∈ found))
      exact ⟨(f.filter fun o => !decide (o ∈ found)) ++ e, by rw [if_pos q, h, List.append_assoc]⟩
    · rw [if_neg q]
      exact rnd_pre x F found
theorem rnd_nd (x : Nat) : ∀ (F : List (List Nat)) (found : List Nat), (∀ f ∈ F, f.Nodup) → found.Nodup → (rnd F x found).Nodup
  | [], found, _, h => h
  | f :: F, found, hF, h => by
    rw [rnd_cons]
    refine rnd_nd x F _ (fun e he => hF e (List.mem_cons_of_mem _ he)) ?_
    by_cases q : x ∈ f
    · rw [if_pos q, List.nodup_append]
      refine ⟨h, List.Pairwise.filter _ (hF f (List.mem_cons_self ..)), fun a ha b hb z => ?_⟩
      subst z
      rw [List.mem_filter] at hb
      simp at hb
      exact hb.2 ha
    · rw [if_neg q]; exact h
theorem rnd_from (x : Nat) : ∀ (F : List (List Nat)) (found : List Nat) (y : Nat), y ∈ rnd F x found → y ∈ found ∨ Adj F x y
  | [], found, y, h => .inl h
  | f :: F, found, y, h => by
    rw [rnd_cons] at h
    rcases rnd_from x F _ y h with h | ⟨e, he, h1, h2⟩
    · by_cases q : x ∈ f
      · rw [if_pos q] at h
        rcases List.mem_append.mp h with h | h
        · exact .inl h
        · exact .inr ⟨f, List.mem_cons_self .., q, (List.mem_filter.mp h).1⟩
      · rw [if_neg q] at h; exact .inl h
    · exact .inr ⟨e, List.mem_cons_of_mem _ he, h1, h2⟩
theorem rnd_all (x : Nat) : ∀ (F : List (List Nat)) (found : List Nat) (y : Nat), Adj F x y → y ∈ rnd F x found
  | [], found, y, h => by obtain ⟨f, hf, _⟩ := h; cases hf
  | f :: F, found, y, h => by
    rw [rnd_cons]
    obtain ⟨e, he, h1, h2⟩ := h
    rcases List.mem_cons.mp he with rfl | he
    · rw [if_pos h1]
      obtain ⟨t, ht⟩ := rnd_pre x F (found ++ e.filter fun o => !decide (o ∈ found))
      rw [ht]
      refine List.mem_append_left _ ?_
      by_cases q : y ∈ found
      · exact List.mem_append_left _ q
      · exact List.mem_append_right _ (List.mem_filter.mpr ⟨h2, by simp [q]⟩)
    · exact rnd_all x F _ y ⟨e, he, h1, h2⟩
/-- what the search keeps -/
structure Sp (n : Nat) (F : List (List Nat)) (p i : Nat) (found : List Nat) : Prop where
  nd : found.Nodup
  lt : ∀ y ∈ found, y < n
  pin : p ∈ found
  re : ∀ y ∈ found, Reach F p y
  cl : ∀ j y, j < i → ∀ h : j < found.length, Adj F found[j] y → y ∈ found
theorem Sp.len {n : Nat} {F : List (List Nat)} {p i : Nat} {found : List Nat} (s : Sp n F p i found) : found.length ≤ n := by
  have := len_sub (m := List.range n) s.nd fun y hy => List.mem_range.mpr (s.lt y hy)
  simpa using this
theorem Sp.next {n : Nat} {F : List (List Nat)} {p i : Nat} {found : List Nat} (s : Sp n F p i found) (hF : ∀ f ∈ F, Lot n f) (hi : i < found.length) : Sp n F p (i + 1) (rnd F found[i] found) := by
  obtain ⟨e, he⟩ := rnd_pre found[i] F found
  refine ⟨rnd_nd _ F found (fun f hf => asc_nodup (hF f hf).asc) s.nd, fun y hy => ?_, by rw [he]; exact List.mem_append_left _ s.pin, fun y hy => ?_, fun j y hj hl ha => ?_⟩
  · rcases rnd_from _ F found y hy with h | ⟨f, hf, _, h⟩
    · exact s.lt y h
    · exact (hF f hf).lt y h
  · rcases rnd_from _ F found y hy with h | h
    · exact s.re y h
    · exact .step (s.re _ (List.getElem_mem hi)) h
  · have hjl : j < found.length := by omega
    have ej : (rnd F found[i] found)[j] = found[j] := by simp only [he, List.getElem_append_left hjl]
    rw [ej] at ha
    by_cases q : j = i
    · subst q
      exact rnd_all _ F found y ha
    · rw [he]
      exact List.mem_append_left _ (s.cl j y (by omega) hjl ha)
theorem spGo_sp {n : Nat} {F : List (List Nat)} {p : Nat} (hF : ∀ f ∈ F, Lot n f) : ∀ (k i : Nat) (found : List Nat), Sp n F p i found → n ≤ k + i → ∃ i', Sp n F p i' (spGo F k i found) ∧ (spGo F k i found).length ≤ i'
  | 0, i, found, s, h => ⟨i, s, by have := s.len; simp only [spGo]; omega⟩
  | k + 1, i, found, s, h => by
    unfold spGo
    split
    · rename_i hi
      exact spGo_sp hF k (i + 1) _ (s.next hF hi) (by omega)
    · rename_i hi
      exact ⟨i, s, by omega⟩
def spread (n : Nat) (F : List (List Nat)) (p : Nat) : List Nat := srtB ltN (spGo F (n + 1) 0 [p])
theorem sp_start {n : Nat} {F : List (List Nat)} {p : Nat} (hp : p < n) : Sp n F p 0 [p] := ⟨by simp, by simpa using hp, by simp, fun y hy => by simp at hy; subst hy; exact .refl, fun j y hj => absurd hj (Nat.not_lt_zero j)⟩
theorem spread_mem {n : Nat} {F : List (List Nat)} {p : Nat} (hF : ∀ f ∈ F, Lot n f) (hp : p < n) {y : Nat} : y ∈ spread n F p ↔ Reach F p y := by
  obtain ⟨i', s, hl⟩ := spGo_sp hF (n + 1) 0 [p] (sp_start hp) (by omega)
  unfold spread
  rw [srtB_mem]
  refine ⟨s.re y, fun h => ?_⟩
  induction h with
  | refl => exact s.pin
  | step _ a ih =>
    obtain ⟨j, hj, e⟩ := List.getElem_of_mem ih
    exact s.cl j _ (by omega) hj (by rw [e]; exact a)
theorem spread_asc {n : Nat} {F : List (List Nat)} {p : Nat} (hF : ∀ f ∈ F, Lot n f) (hp : p < n) : Asc ltN (spread n F p) := by
  obtain ⟨i', s, hl⟩ := spGo_sp hF (n + 1) 0 [p] (sp_start hp) (by omega)
  exact srtB_asc ordN s.nd
theorem spread_lot {n : Nat} {F : List (List Nat)} {p : Nat} (hF : ∀ f ∈ F, Lot n f) (hp : p < n) : Lot n (spread n F p) := by
  obtain ⟨i', s, hl⟩ := spGo_sp hF (n + 1) 0 [p] (sp_start hp) (by omega)
  refine ⟨(spread_asc hF hp).imp fun h => by simpa [ltN] using h, fun x hx => ?_⟩
  unfold spread at hx
  rw [srtB_mem] at hx
  exact s.lt x hx
def partsL (n : Nat) (F : List (List Nat)) : List (List Nat) := srtB ltL (keysE (spread n F) (placesL n F) [])
def SSpread (call : CallF) (k : Nat) : Prop := ∀ n F p st, Cx n F → p < n → call k [cD n F, nD p] st = some (lD (spread n F p), st)
def SParts (call : CallF) (k : Nat) : Prop := ∀ n F st, Cx n F → call k [cD n F] st = some (LT (partsL n F), st)
section
variable {C : Cfg} {g h : Nat → Nat} {st : St}
theorem add_NL (A B : List Nat) (h : A.length + B.length ≤ 1000000) : binD .add (NL A) (NL B) = some (NL (A ++ B)) := by
  have := bin_addL (A.map nD) (B.map nD) (by simp; omega)
  simp only [NL, List.map_append]
  exact this
theorem ix_NL {st : St} {l : List Nat} {i : Nat} (h : i < l.length) : ixD st (NL l) (nD i) = some (nD l[i]) := by
  simp [ixD, NL, nD, place, h]
theorem r19 (n : Nat) (F : List (List Nat)) (p : Nat) (c : Cx n F) (hp : p < n) : R C (TL.f19 g h) [cD n F, nD p] st = some (lD (spread n F p), st) := by
  have h1 : (1 : Nat) ≤ LIM := by decide
  have hn := c.n10
  suffices hs : ∃ x, fin (evSs C (TL.f19 g h).body (startE (TL.f19 g h) [cD n F, nD p]) st) = some x ∧ x = (lD (spread n F p), st) by
    obtain ⟨x, e, rfl⟩ := hs
    exact e
  refine fin_stepZ (env' := [Sl.sh (cD n F), Sl.sh (nD p), Sl.sh (NL [p]), Sl.sh (nD 0), .un, .un]) (st' := st) ?_ ?_
  · simp [startE, TL.f19, h1, setPs, setV, NL]
  rw [ss_cons, s_whl]
  obtain ⟨env', st', e, found, i, v4, v5, rfl, hfin, rfl⟩ := whl_inv (test := evE C true (.cmp .lt (.var 3) (.bi .len (.cons (.var 2) .nil)))) (body := evSs C (.cons (.for_ (.var 4) (.ix (.var 0) (.cst (.int 1))) (.cons (.ifs (.cmp .mem (.ix (.var 2) (.var 3)) (.var 4)) (.cons (.asg (.var 2) (.bin .add (.var 2) (.lc [5] (.var 5) (.var 5) (.var 4) (.cons (.cmp .nmem (.var 5) (.var 2)) .nil)))) .nil) .nil) .nil)) (.cons (.aug 3 .add (.cst (.int 1))) .nil)))
    (fun m env s => ∃ i found v4 v5, env = [Sl.sh (cD n F), Sl.sh (nD p), Sl.sh (NL found), Sl.sh (nD i), v4, v5] ∧ Sp n F p i found ∧ n + 1 ≤ m + i ∧ spGo F m i found = spGo F (n + 1) 0 [p] ∧ st = s)
    (fun env s => ∃ found i v4 v5, env = [Sl.sh (cD n F), Sl.sh (nD p), Sl.sh (NL found), Sl.sh (nD i), v4, v5] ∧ found = spGo F (n + 1) 0 [p] ∧ st = s)
    (n + 1) BIG [Sl.sh (cD n F), Sl.sh (nD p), Sl.sh (NL [p]), Sl.sh (nD 0), .un, .un] st (show n + 1 < 1000000000 by omega) ⟨0, [p], _, _, rfl, sp_start hp, by omega, rfl, rfl⟩ (by
      rintro m env s ⟨i, found, v4, v5, rfl, sp, hm, hg, rfl⟩
      have hlen := sp.len
      by_cases q : i < found.length
      · right
        refine ⟨by simp [q], ?_⟩
        obtain ⟨m', rfl⟩ : ∃ m', m = m' + 1 := ⟨m - 1, by omega⟩
        refine ⟨m', ?_⟩
        rw [ss_cons, s_for]
        have hit : evE C false (.ix (.var 0) (.cst (.int 1))) [Sl.sh (cD n F), Sl.sh (nD p), Sl.sh (NL found), Sl.sh (nD i), v4, v5] st = some (LT F, st) := by simp
        rw [hit]
        simp only [Option.bind_some, seq_LT]
        obtain ⟨env2, s2, e2, pre, v4', v5', hpre, rfl, rfl⟩ := forGo_inv lD (turn := fun d env st => (asgT (.var 4) d env).bind fun env' => evSs C (.cons (.ifs (.cmp .mem (.ix (.var 2) (.var 3)) (.var 4)) (.cons (.asg (.var 2) (.bin .add (.var 2) (.lc [5] (.var 5) (.var 5) (.var 4) (.cons (.cmp .nmem (.var 5) (.var 2)) .nil)))) .nil) .nil) .nil) env' st)
          (fun rem env s' => ∃ pre v4 v5, pre ++ rem = F ∧ env = [Sl.sh (cD n F), Sl.sh (nD p), Sl.sh (NL (rnd pre found[i] found)), Sl.sh (nD i), v4, v5] ∧ st = s') F [Sl.sh (cD n F), Sl.sh (nD p), Sl.sh (NL found), Sl.sh (nD i), v4, v5] st ⟨[], _, _, rfl, rfl, rfl⟩ (by
            rintro f rem env s' ⟨pre, v4, v5, epre, rfl, rfl⟩
            have hf : f ∈ F := by rw [← epre]; simp
            have zf : f.length ≤ 10 := by have := (c.lot f hf).len; omega
            obtain ⟨ext, hext⟩ := rnd_pre found[i] pre found
            have hpF : ∀ e ∈ pre, Lot n e := fun e he => c.lot e (by rw [← epre]; simp [he])
            have hr : (rnd pre found[i] found).length ≤ n := by
              have nd := rnd_nd found[i] pre found (fun e he => asc_nodup (hpF e he).asc) sp.nd
              have := len_sub (m := List.range n) nd fun y hy => List.mem_range.mpr (by
                rcases rnd_from _ pre found y hy with h | ⟨e, he, _, h⟩
                · exact sp.lt y h
                · exact (hpF e he).lt y h)
              simpa using this
            have eix : ixD st (NL (rnd pre found[i] found)) (nD i) = some (nD found[i]) := by
              rw [ix_NL (by rw [hext]; simp; omega)]
              simp only [hext, List.getElem_append_left q]
            have ern : rnd (pre ++ [f]) found[i] found = if found[i] ∈ f then rnd pre found[i] found ++ f.filter (fun o => !decide (o ∈ rnd pre found[i] found)) else rnd pre found[i] found := by unfold rnd; rw [List.foldl_append]; rfl
            refine ⟨[Sl.sh (cD n F), Sl.sh (nD p), Sl.sh (NL (rnd (pre ++ [f]) found[i] found)), Sl.sh (nD i), Sl.sh (lD f), v5], st, ?_, pre ++ [f], _, _, by simp [epre], rfl, rfl⟩
            generalize hrr : rnd pre found[i] found = rr at *
            rw [ern]
            simp [setV, eix]
            by_cases z : found[i] ∈ f
            · simp [z]
              rw [lc_map nD (fun o => !decide (o ∈ rr)) nD (by omega)]
              · rw [show D.lst ((f.filter fun o => !decide (o ∈ rr)).map nD) = NL (f.filter fun o => !decide (o ∈ rr)) from rfl]
                have hfl := List.length_filter_le (fun o => !decide (o ∈ rr)) f
                simp only [Option.bind_some]
                rw [add_NL _ _ (by omega)]
                simp
              · intro o ho
                refine ⟨_, rfl, ?_, by simp⟩
                simp
                by_cases y : o ∈ rr <;> simp [y]
            · simp [z])
        rw [e2]
        have hpre : pre = F := by simpa using hpre
        subst hpre
        refine ⟨[Sl.sh (cD n pre), Sl.sh (nD p), Sl.sh (NL (rnd pre found[i] found)), Sl.sh (nD (i + 1)), v4', v5'], st, by omega, ?_, i + 1, rnd pre found[i] found, _, _, rfl, sp.next c.lot q, by omega, ?_, rfl⟩
        · simp [augX, setV, nD]
        · rw [← hg]
          conv => rhs; unfold spGo
          rw [dif_pos q]
      · left
        refine ⟨by simp [q], found, i, v4, v5, rfl, ?_, rfl⟩
        rw [← hg]
        cases m with
        | zero => rfl
        | succ m => unfold spGo; rw [dif_neg q])
  rw [e]
  refine ⟨_, ?_, rfl⟩
  simp [spread, hfin]
theorem r20 (h7 : SNeed C.call (g 7)) (h14 : SPlaces C.call (g 14)) (h19 : SSpread C.call (g 19)) (n : Nat) (F : List (List Nat)) (c : Cx n F) : R C (TL.f20 g h) [cD n F] st = some (LT (partsL n F), st) := by
  have hz : (placesL n F).length ≤ 10 := by
    have := List.length_filter_le (fun p => F.any (subB [p])) (List.range n)
    have := c.n10
    simp only [placesL]
    simp at *
    omega
  simp [R, TL.f20, TL.b20, startE, h7 n F st c, h14 n F st c]
  rw [dc_true nD (spread n F) (by omega)]
  · simp [partsL]
  · intro p hp
    have hp' : p < n := by
      simp only [placesL, List.mem_filter, List.mem_range] at hp
      exact hp.1
    exact ⟨_, rfl, by simp, by simp [h19 n F p st c hp'], by simp⟩
end
end Pl
end

section
set_option autoImplicit false
set_option linter.all false
set_option maxRecDepth 100000
/-! PlD: the law's parts. -/
namespace Pl
open Mini
def adjB (F : List (List Nat)) (j k : Nat) : Bool := decide (srtB ltN [j, k] ∈ faces F)
theorem srt2_asc {j k : Nat} (h : j ≠ k) : (srtB ltN [j, k]).Pairwise (· < ·) := (srtB_asc ordN (by simp [h])).imp fun h => by simpa [ltN] using h
theorem adj_face {n : Nat} {F : List (List Nat)} (c : Cx n F) {j k : Nat} (h : j ≠ k) : adjB F j k = true ↔ Adj F j k := by
  simp only [adjB, decide_eq_true_eq, faces_mem]
  constructor
  · rintro ⟨f, hf, hs⟩
    exact ⟨f, hf, hs.subset (srtB_mem.mpr (by simp)), hs.subset (srtB_mem.mpr (by simp))⟩
  · rintro ⟨f, hf, h1, h2⟩
    refine ⟨f, hf, (sub_iff (srt2_asc h) (c.lot f hf).asc).mpr fun x hx => ?_⟩
    rw [srtB_mem] at hx
    simp at hx
    rcases hx with rfl | rfl
    · exact h1
    · exact h2
def newH (F : List (List Nat)) (left here : List Nat) : List Nat := left.filter fun k => !decide (k ∈ here) && here.any fun j => adjB F j k
def stepH (F : List (List Nat)) (left here : List Nat) : List Nat := here ++ newH F left here
structure HI (F : List (List Nat)) (left : List Nat) (l0 : Nat) (here : List Nat) : Prop where
  nd : here.Nodup
  sub : ∀ y ∈ here, y ∈ left
  hin : l0 ∈ here
  re : ∀ y ∈ here, Reach F l0 y
theorem HI.len {F : List (List Nat)} {left : List Nat} {l0 : Nat} {here : List Nat} (s : HI F left l0 here) : here.length ≤ left.length := len_sub s.nd s.sub
theorem HI.next {n : Nat} {F : List (List Nat)} (c : Cx n F) {left : List Nat} {l0 : Nat} {here : List Nat} (ln : left.Nodup) (s : HI F left l0 here) : HI F left l0 (stepH F left here) := by
  refine ⟨?_, fun y hy => ?_, List.mem_append_left _ s.hin, fun y hy => ?_⟩
  · rw [stepH, List.nodup_append]
    refine ⟨s.nd, List.Pairwise.filter _ ln, fun a ha b hb z => ?_⟩
    subst z
    have := (List.mem_filter.mp hb).2
    simp [ha] at this
  · rcases List.mem_append.mp hy with h | h
    · exact s.sub y h
    · exact (List.mem_filter.mp h).1
  · rcases List.mem_append.mp hy with h | h
    · exact s.re y h
    · have := (List.mem_filter.mp h).2
      simp only [Bool.and_eq_true, Bool.not_eq_true', decide_eq_false_iff_not, List.any_eq_true] at this
      obtain ⟨h1, j, hj, ha⟩ := this
      have hne : j ≠ y := fun z => h1 (z ▸ hj)
      exact .step (s.re j hj) ((adj_face c hne).mp ha)
theorem stepH_fix {F : List (List Nat)} {left here : List Nat} (h : newH F left here = []) : stepH F left here = here := by rw [stepH, h, List.append_nil]
theorem foldH_fix {F : List (List Nat)} {left here : List Nat} (h : newH F left here = []) : ∀ l : List Nat, l.foldl (fun a _ => stepH F left a) here = here
  | [] => rfl
  | _ :: l => by rw [List.foldl_cons, stepH_fix h]; exact foldH_fix h l
theorem foldH {n : Nat} {F : List (List Nat)} (c : Cx n F) {left : List Nat} {l0 : Nat} (ln : left.Nodup) : ∀ (l here : List Nat), HI F left l0 here → HI F left l0 (l.foldl (fun a _ => stepH F left a) here) ∧ (newH F left (l.foldl (fun a _ => stepH F left a) here) = [] ∨ here.length + l.length ≤ (l.foldl (fun a _ => stepH F left a) here).length)
  | [], here, s => ⟨s, .inr (by simp)⟩
  | _ :: l, here, s => by
    rw [List.foldl_cons]
    by_cases q : newH F left here = []
    · rw [stepH_fix q, foldH_fix q]
      exact ⟨s, .inl q⟩
    · obtain ⟨h1, h2⟩ := foldH c ln l _ (s.next c ln)
      refine ⟨h1, h2.imp id fun h => ?_⟩
      have : 0 < (newH F left here).length := List.length_pos_iff.mpr q
      have e : (stepH F left here).length = here.length + (newH F left here).length := by simp [stepH]
      simp only [List.length_cons]
      omega
def hereL (F : List (List Nat)) (left : List Nat) (l0 : Nat) : List Nat := left.foldl (fun a _ => stepH F left a) [l0]
/-- what is left -/
structure Lf (n : Nat) (F : List (List Nat)) (left : List Nat) : Prop where
  nd : left.Nodup
  pl : ∀ y ∈ left, y ∈ placesL n F
  cl : ∀ y ∈ left, ∀ z, Reach F y z → z ∈ left
theorem pl_lt {n : Nat} {F : List (List Nat)} {y : Nat} (h : y ∈ placesL n F) : y < n := by
  simp only [placesL, List.mem_filter, List.mem_range] at h
  exact h.1
theorem here_all {n : Nat} {F : List (List Nat)} (c : Cx n F) {left : List Nat} {l0 : Nat} (l : Lf n F left) (h0 : l0 ∈ left) : HI F left l0 (hereL F left l0) ∧ ∀ y, y ∈ hereL F left l0 ↔ Reach F l0 y := by
  have s0 : HI F left l0 [l0] := ⟨by simp, by simpa using h0, by simp, fun y hy => by simp at hy; subst hy; exact .refl⟩
  obtain ⟨s, h⟩ := foldH c l.nd left [l0] s0
  have hn : newH F left (hereL F left l0) = [] := by
    rcases h with h | h
    · exact h
    · have := s.len
      simp at h
      omega
  refine ⟨s, fun y => ⟨s.re y, fun r => ?_⟩⟩
  induction r with
  | refl => exact s.hin
  | @step x y r a ih =>
    by_cases q : y ∈ hereL F left l0
    · exact q
    · have hy : y ∈ newH F left (hereL F left l0) := by
        refine List.mem_filter.mpr ⟨l.cl l0 h0 y (.step r a), ?_⟩
        have hne : x ≠ y := fun z => q (z ▸ ih)
        simp only [Bool.and_eq_true, Bool.not_eq_true', decide_eq_false_iff_not, List.any_eq_true]
        exact ⟨q, x, ih, (adj_face c hne).mpr a⟩
      rw [hn] at hy
      cases hy
theorem here_spread {n : Nat} {F : List (List Nat)} (c : Cx n F) {left : List Nat} {l0 : Nat} (l : Lf n F left) (h0 : l0 ∈ left) : srtB ltN (hereL F left l0) = spread n F l0 := by
  obtain ⟨s, h⟩ := here_all c l h0
  have hlt := pl_lt (l.pl l0 h0)
  exact asc_ext ordN (srtB_asc ordN s.nd) (spread_asc c.lot hlt) fun y => by rw [srtB_mem, h, spread_mem c.lot hlt]
theorem Lf.next {n : Nat} {F : List (List Nat)} (c : Cx n F) {left : List Nat} {l0 : Nat} (l : Lf n F left) (h0 : l0 ∈ left) : Lf n F (left.filter fun k => !decide (k ∈ hereL F left l0)) := by
  obtain ⟨s, h⟩ := here_all c l h0
  refine ⟨List.Pairwise.filter _ l.nd, fun y hy => l.pl y (List.mem_filter.mp hy).1, fun y hy z r => ?_⟩
  obtain ⟨h1, h2⟩ := List.mem_filter.mp hy
  refine List.mem_filter.mpr ⟨l.cl y h1 z r, ?_⟩
  simp only [Bool.not_eq_true', decide_eq_false_iff_not, h] at h2 ⊢
  exact fun q => h2 (Reach.trans q r.symm)
/-- what is found -/
structure Fd (n : Nat) (F : List (List Nat)) (left : List Nat) (found : List (List Nat)) : Prop where
  nd : found.Nodup
  mem : ∀ x, x ∈ found ↔ ∃ p ∈ placesL n F, p ∉ left ∧ spread n F p = x
theorem Fd.next {n : Nat} {F : List (List Nat)} (c : Cx n F) {left : List Nat} {found : List (List Nat)} {l0 : Nat} (d : Fd n F left found) (l : Lf n F left) (h0 : l0 ∈ left) :
    Fd n F (left.filter fun k => !decide (k ∈ hereL F left l0)) (found ++ [spread n F l0]) := by
  obtain ⟨s, h⟩ := here_all c l h0
  have hp0 := l.pl l0 h0
  have hlt := pl_lt hp0
  refine ⟨?_, fun x => ?_⟩
  · rw [List.nodup_append]
    refine ⟨d.nd, by simp, fun a ha b hb z => ?_⟩
    simp at hb
    subst hb
    subst z
    obtain ⟨p, hp, hl, e⟩ := (d.mem _).mp ha
    have : p ∈ spread n F p := (spread_mem c.lot (pl_lt hp)).mpr .refl
    rw [e] at this
    exact hl (l.cl l0 h0 p ((spread_mem c.lot hlt).mp this))
  · rw [List.mem_append, d.mem]
    constructor
    · rintro (⟨p, hp, hl, rfl⟩ | hx)
      · exact ⟨p, hp, fun z => hl (List.mem_filter.mp z).1, rfl⟩
      · simp at hx
        subst hx
        refine ⟨l0, hp0, fun z => ?_, rfl⟩
        have := (List.mem_filter.mp z).2
        simp [s.hin] at this
    · rintro ⟨p, hp, hl, rfl⟩
      by_cases q : p ∈ left
      · right
        have hr : Reach F l0 p := by
          refine (h p).mp (Classical.byContradiction fun z => hl (List.mem_filter.mpr ⟨q, by simp [z]⟩))
        simp only [List.mem_singleton]
        exact asc_ext ordN (spread_asc c.lot (pl_lt hp)) (spread_asc c.lot hlt) fun y => by
          rw [spread_mem c.lot (pl_lt hp), spread_mem c.lot hlt]
          exact ⟨fun r => Reach.trans hr r, fun r => Reach.trans hr.symm r⟩
      · exact .inl ⟨p, hp, q, rfl⟩
theorem Fd.done {n : Nat} {F : List (List Nat)} {found : List (List Nat)} (d : Fd n F [] found) : srtB ltL found = partsL n F := srtB_ext ordL d.nd (keysE_nodup _ _ _ List.nodup_nil) fun x => by
  rw [d.mem, keysE_mem]
  simp
def SLParts (call : CallF) (k : Nat) : Prop := ∀ n F st, Cx n F → call k [cD n F] st = some (LT (partsL n F), st)
section
variable {C : Cfg} {g h : Nat → Nat} {st : St}
theorem ne_NL (l : List Nat) : cmpD .ne (NL l) (.lst []) = some (decide (l ≠ [])) := by
  have h : shallow (D.lst []) = true := by decide
  cases l with
  | nil => simp [cmpD, eqC, h, NL, eqD, eqDs]
  | cons a A =>
    have h2 : shallow (NL (a :: A)) = true := shallow_of (k := 1) (by simp only [NL, plain, plains_map nD plain_nD]) (by have := depths_map nD 0 depth_nD (a :: A); simp only [NL, depth]; omega) (by decide)
    simp [cmpD, eqC, h, h2]
    simp [NL, eqD, eqDs]
theorem bi_srt2 (j k : Nat) : biD .sorted [D.tup [nD j, nD k]] = some (NL (srtB ltN [j, k])) := bi_sorted_lD [j, k]
theorem sub1 (F : List (List Nat)) (p : Nat) : decide ([p] ∈ faces F) = F.any (subB [p]) := by
  have : [p] ∈ faces F ↔ F.any (subB [p]) = true := by
    rw [faces_mem, List.any_eq_true]
    simp [subB]
  cases q : F.any (subB [p]) with
  | true => simp [this.mpr q]
  | false => simp only [decide_eq_false_iff_not]; exact fun z => by rw [this.mp z] at q; cases q
theorem pl_mem {n : Nat} {F : List (List Nat)} (c : Cx n F) {y : Nat} : y ∈ placesL n F ↔ ∃ f ∈ F, y ∈ f := by
  simp only [placesL, List.mem_filter, List.mem_range, List.any_eq_true, subB]
  constructor
  · rintro ⟨_, f, hf, h⟩; exact ⟨f, hf, by simpa using h⟩
  · rintro ⟨f, hf, h⟩; exact ⟨(c.lot f hf).lt y h, f, hf, by simpa using h⟩
theorem ss_step {s r : T} {env env' : Env} {st st' : St} {res : Option (Fl × Env × St)} (h : evS C s env st = some (.nx, env', st')) (k : evSs C r env' st' = res) : evSs C (.cons s r) env st = res := by
  rw [ss_cons, h]
  exact k
theorem any_iso {α : Type} (p : α → Bool) (l : List α) : (!(l.filter p).isEmpty) = l.any p := by
  induction l with
  | nil => rfl
  | cons a l ih =>
    rw [List.filter_cons, List.any_cons]
    cases p a with
    | true => rfl
    | false => simpa using ih
theorem r40 (h37 : SFaces C.call (g 37)) (n : Nat) (F : List (List Nat)) (c : Cx n F) : R C (TL.f40 g h) [cD n F] st = some (LT (partsL n F), st) := by
  have hn := c.n10
  suffices hs : ∃ x, fin (evSs C (TL.f40 g h).body (startE (TL.f40 g h) [cD n F]) st) = some x ∧ x = (LT (partsL n F), st) by
    obtain ⟨x, e, rfl⟩ := hs
    exact e
  refine fin_stepZ (env' := [Sl.sh (cD n F), Sl.sh (LL (faces F)), .un, .un, .un, .un, .un, .un]) (st' := st) ?_ ?_
  · simp [startE, TL.f40, setV, h37 n F st c]
  refine fin_stepZ (env' := [Sl.sh (cD n F), Sl.sh (LL (faces F)), Sl.sh (NL (placesL n F)), Sl.ow (LL []), .un, .un, .un, .un]) (st' := st) ?_ ?_
  · simp [h37 n F st c, rng_nD n st (by omega)]
    rw [lc_map nD (fun p => F.any (subB [p])) nD (by simp; omega)]
    · have h1 : (0 : Nat) ≤ LIM := by decide
      simp only [Option.bind_some]
      simp [h1, ownable, setPs, setV, placesL, NL, LL]
    · intro p hp
      refine ⟨_, rfl, ?_, by simp⟩
      have h1 : (1 : Nat) ≤ LIM := by decide
      simp only [← sub1]
      simp [h1]
      have := mem_LL [p] (faces F)
      simp only [lD, List.map_cons, List.map_nil] at this
      rw [this]
      by_cases q : [p] ∈ faces F <;> simp [q]
  rw [ss_cons, s_whl]
  obtain ⟨env', st', e, found, v4, v5, v6, v7, rfl, hfin, rfl⟩ := whl_inv (test := evE C true (.cmp .ne (.var 2) (.lst .nil)))
    (body := evSs C (.cons (.asg (.var 4) (.lst (.cons (.ix (.var 2) (.cst (.int 0))) .nil))) (.cons (.for_ (.var 5) (.var 2) (.cons (.asg (.var 4) (.bin .add (.var 4) (.lc [6] (.var 6) (.var 6) (.var 2) (.cons (.and (.cmp .nmem (.var 6) (.var 4)) (.cmp .ne (.lc [7] (.cst (.int 1)) (.var 7) (.var 4) (.cons (.cmp .mem (.bi .tuple (.cons (.bi .sorted (.cons (.tup (.cons (.var 7) (.cons (.var 6) .nil))) .nil)) .nil)) (.var 1)) .nil)) (.lst .nil))) .nil)))) .nil)) (.cons (.app 3 (.bi .tuple (.cons (.bi .sorted (.cons (.var 4) .nil)) .nil))) (.cons (.asg (.var 2) (.lc [6] (.var 6) (.var 6) (.var 2) (.cons (.cmp .nmem (.var 6) (.var 4)) .nil))) .nil)))))
    (fun m env s => ∃ left found v4 v5 v6 v7, env = [Sl.sh (cD n F), Sl.sh (LL (faces F)), Sl.sh (NL left), Sl.ow (LL found), v4, v5, v6, v7] ∧ left.length ≤ m ∧ left.length + found.length ≤ 10 ∧ Lf n F left ∧ Fd n F left found ∧ st = s)
    (fun env s => ∃ found v4 v5 v6 v7, env = [Sl.sh (cD n F), Sl.sh (LL (faces F)), Sl.sh (NL []), Sl.ow (LL found), v4, v5, v6, v7] ∧ Fd n F [] found ∧ st = s)
    10 BIG [Sl.sh (cD n F), Sl.sh (LL (faces F)), Sl.sh (NL (placesL n F)), Sl.ow (LL []), .un, .un, .un, .un] st (show 10 < 1000000000 by omega) (by
      have hz : (placesL n F).length ≤ 10 := by
        have := List.length_filter_le (fun p => F.any (subB [p])) (List.range n)
        simp only [placesL]
        simp at *
        omega
      exact ⟨placesL n F, [], _, _, _, _, rfl, hz, by simpa using hz, ⟨List.Pairwise.filter _ List.nodup_range, fun _ h => h, fun y hy z r => by
        induction r with
        | refl => exact hy
        | step _ a ih => obtain ⟨f, hf, _, h⟩ := a; exact (pl_mem c).mpr ⟨f, hf, h⟩⟩, ⟨.nil, fun x => by simp; exact fun p h1 h2 => absurd h1 h2⟩, rfl⟩) (by
      rintro m env s ⟨left, found, v4, v5, v6, v7, rfl, hm, hz, lf, fd, rfl⟩
      match left, lf, fd, hm, hz with
      | [], lf, fd, hm, hz => exact .inl ⟨by simp [ne_NL], found, v4, v5, v6, v7, rfl, fd, rfl⟩
      | l0 :: lr, lf, fd, hm, hz =>
        right
        refine ⟨by simp [ne_NL], ?_⟩
        have h0 : l0 ∈ l0 :: lr := List.mem_cons_self ..
        generalize hll : l0 :: lr = left at *
        have hl0 : left[0]? = some l0 := by rw [← hll]; rfl
        have hlen : 0 < left.length := by rw [← hll]; simp
        obtain ⟨hi, hmem⟩ := here_all c lf h0
        refine ⟨(left.filter fun k => !decide (k ∈ hereL F left l0)).length, ?_⟩
        have hlt : (left.filter fun k => !decide (k ∈ hereL F left l0)).length < left.length := by
          rw [List.length_filter_lt_length_iff_exists]
          exact ⟨l0, h0, by simp [hi.hin]⟩
        have hit : evE C false (.var 2) [Sl.sh (cD n F), Sl.sh (LL (faces F)), Sl.sh (NL left), Sl.ow (LL found), Sl.sh (NL [l0]), v5, v6, v7] st = some (NL left, st) := by simp
        obtain ⟨env2, s2, e2, v5', v6', v7', rfl, hI, rfl⟩ := forGo_rel nD (turn := fun d env st => (asgT (.var 5) d env).bind fun env' => evSs C (.cons (.asg (.var 4) (.bin .add (.var 4) (.lc [6] (.var 6) (.var 6) (.var 2) (.cons (.and (.cmp .nmem (.var 6) (.var 4)) (.cmp .ne (.lc [7] (.cst (.int 1)) (.var 7) (.var 4) (.cons (.cmp .mem (.bi .tuple (.cons (.bi .sorted (.cons (.tup (.cons (.var 7) (.cons (.var 6) .nil))) .nil)) .nil)) (.var 1)) .nil)) (.lst .nil))) .nil)))) .nil) env' st)
          (fun here env s => ∃ v5 v6 v7, env = [Sl.sh (cD n F), Sl.sh (LL (faces F)), Sl.sh (NL left), Sl.ow (LL found), Sl.sh (NL here), v5, v6, v7] ∧ HI F left l0 here ∧ st = s)
          (fun a _ => stepH F left a) left [l0] [Sl.sh (cD n F), Sl.sh (LL (faces F)), Sl.sh (NL left), Sl.ow (LL found), Sl.sh (NL [l0]), v5, v6, v7] st ⟨_, _, _, rfl, ⟨by simp, by simpa using h0, by simp, fun y hy => by simp at hy; subst hy; exact .refl⟩, rfl⟩ (by
            rintro here x env s hx ⟨v5, v6, v7, rfl, hI, rfl⟩
            have zh := hI.len
            refine ⟨[Sl.sh (cD n F), Sl.sh (LL (faces F)), Sl.sh (NL left), Sl.ow (LL found), Sl.sh (NL (stepH F left here)), Sl.sh (nD x), v6, v7], st, ?_, _, _, _, rfl, hI.next c lf.nd, rfl⟩
            simp [setV]
            rw [lc_map nD (fun k => !decide (k ∈ here) && here.any fun j => adjB F j k) nD (by omega)]
            · rw [show D.lst ((left.filter fun k => !decide (k ∈ here) && here.any fun j => adjB F j k).map nD) = NL (newH F left here) from rfl]
              have := List.length_filter_le (fun k => !decide (k ∈ here) && here.any fun j => adjB F j k) left
              simp only [Option.bind_some]
              rw [add_NL _ _ (by simp only [newH]; omega)]
              simp [stepH]
            · intro k hk
              refine ⟨_, rfl, ?_, by simp⟩
              have h0 : (0 : Nat) ≤ LIM := by decide
              have h2 : (2 : Nat) ≤ LIM := by decide
              simp
              by_cases q : k ∈ here
              · simp [q]
              · simp [q]
                rw [lc_map nD (fun j => adjB F j k) (fun _ => .int 1) (by omega)]
                · simp only [Option.bind_some]
                  rw [ne_ones, any_iso]
                  cases here.any fun j => adjB F j k <;> rfl
                · intro j hj
                  refine ⟨_, rfl, ?_, by simp⟩
                  simp [h2, bi_srt2, adjB]
                  by_cases q : srtB ltN [j, k] ∈ faces F <;> simp [q])
        refine ⟨[Sl.sh (cD n F), Sl.sh (LL (faces F)), Sl.sh (NL (left.filter fun k => !decide (k ∈ hereL F left l0))), Sl.ow (LL (found ++ [spread n F l0])), Sl.sh (NL (hereL F left l0)), v5', v6', v7'], st, by omega, ?_, _, _, _, _, _, _, rfl, Nat.le_refl _, ?_, lf.next c h0, fd.next c lf h0, rfl⟩
        · refine ss_step (env' := [Sl.sh (cD n F), Sl.sh (LL (faces F)), Sl.sh (NL left), Sl.ow (LL found), Sl.sh (NL [l0]), v5, v6, v7]) (st' := st) ?_ ?_
          · have h1 : (1 : Nat) ≤ LIM := by decide
            have hix : ixD st (NL left) (.int 0) = some (nD l0) := by
              have := ix_NL (st := st) hlen
              subst hll
              exact this
            simp [hix, h1, setV]
            rfl
          rw [ss_cons, s_for, hit]
          simp only [Option.bind_some, seq_NL]
          rw [e2]
          show evSs C _ _ _ = _
          refine ss_step (env' := [Sl.sh (cD n F), Sl.sh (LL (faces F)), Sl.sh (NL left), Sl.ow (LL (found ++ [spread n F l0])), Sl.sh (NL (hereL F left l0)), v5', v6', v7']) (st' := st) ?_ ?_
          · have : List.foldl (fun a x => stepH F left a) [l0] left = hereL F left l0 := rfl
            rw [this]
            refine sI_app (F := found) ?_ rfl (by omega)
            simp [here_spread c lf h0]
          have hd : evSs C .nil = fun env st => some (.nx, env, st) := by funext env st; simp
          simp [setV]
          rw [lc_map nD (fun k => !decide (k ∈ hereL F left l0)) nD (by omega)]
          · simp [NL]
          · intro k hk
            refine ⟨_, rfl, ?_, by simp⟩
            simp
            by_cases q : k ∈ hereL F left l0 <;> simp [q]
        · simp only [List.length_append, List.length_singleton]; omega)
  rw [e]
  refine ⟨_, ?_, rfl⟩
  simp [hfin.done]
end
end Pl
end

section
set_option autoImplicit false
set_option linter.all false
set_option maxRecDepth 100000
/-! PlE: two ways, one answer. -/
namespace Pl
open Mini
theorem less_asc {f : List Nat} (h : f.Pairwise (· < ·)) (o : List Nat) : (less f o).Pairwise (· < ·) := h.sublist (less_sub f o)
theorem less_one_len {f : List Nat} (h : f.Nodup) {p : Nat} (hp : p ∈ f) : (less f [p]).length + 1 = f.length := by
  have e : less f [p] = f.erase p := by
    rw [h.erase_eq_filter]
    unfold less
    congr 1
    funext x
    by_cases q : x = p <;> simp [q]
  rw [e, List.length_erase_of_mem hp]
  have := List.length_pos_of_mem hp
  omega
theorem less_one_mem {f : List Nat} {p x : Nat} : x ∈ less f [p] ↔ x ∈ f ∧ x ≠ p := by rw [less_mem]; simp
theorem asc_eq {a b : List Nat} (ha : a.Pairwise (· < ·)) (hb : b.Pairwise (· < ·)) (h : ∀ x, x ∈ a ↔ x ∈ b) : a = b := asc_ext ordN (ha.imp fun h => by simpa [ltN] using h) (hb.imp fun h => by simpa [ltN] using h) h
theorem count_one {α : Type} [BEq α] [LawfulBEq α] {x : α} : ∀ {l : List α}, l.Nodup → x ∈ l → l.count x = 1
  | [], _, h => by cases h
  | a :: l, nd, h => by
    rw [List.nodup_cons] at nd
    rw [List.count_cons]
    by_cases q : a = x
    · subst q
      simp [List.count_eq_zero.mpr nd.1]
    · have hx : x ∈ l := by
        rcases List.mem_cons.mp h with z | z
        · exact absurd z.symm q
        · exact z
      simp [count_one nd.2 hx, q]
theorem walls_nd {f : List Nat} (h : f.Nodup) : (wallsOf f).Nodup := by
  unfold wallsOf
  rw [List.Nodup, List.pairwise_map]
  refine List.Pairwise.imp_of_mem ?_ h
  intro a b ha hb hab e
  have : a ∈ less f [b] := less_one_mem.mpr ⟨ha, hab⟩
  rw [← e] at this
  exact (less_one_mem.mp this).2 rfl
theorem walls_mem {f w : List Nat} (hf : f.Pairwise (· < ·)) (hw : w.Pairwise (· < ·)) : w ∈ wallsOf f ↔ f.length = w.length + 1 ∧ subB w f = true := by
  unfold wallsOf
  rw [List.mem_map]
  constructor
  · rintro ⟨p, hp, rfl⟩
    exact ⟨(less_one_len (asc_nodup hf) hp).symm, subB_iff.mpr fun x hx => (less_sub f [p]).subset hx⟩
  · rintro ⟨hl, hs⟩
    have : ∃ p ∈ f, p ∉ w := by
      refine Classical.byContradiction fun z => ?_
      have := len_sub (asc_nodup hf) (m := w) fun x hx => Classical.byContradiction fun q => z ⟨x, hx, q⟩
      omega
    obtain ⟨p, hp, hpw⟩ := this
    refine ⟨p, hp, ?_⟩
    have hsub : w.Sublist (less f [p]) := (sub_iff hw (less_asc hf _)).mpr fun x hx => less_one_mem.mpr ⟨subB_iff.mp hs x hx, fun z => hpw (z ▸ hx)⟩
    exact (hsub.eq_of_length (by have := less_one_len (asc_nodup hf) hp; omega)).symm
theorem count_walls {n : Nat} {w : List Nat} (hw : w.Pairwise (· < ·)) : ∀ {F : List (List Nat)}, (∀ f ∈ F, Lot n f) → (wallsL F).count w = cntL F w
  | [], _ => rfl
  | f :: F, h => by
    have ih := count_walls hw (F := F) fun e he => h e (List.mem_cons_of_mem _ he)
    have hf := (h f (List.mem_cons_self ..)).asc
    have e1 : wallsL (f :: F) = wallsOf f ++ wallsL F := by simp [wallsL]
    rw [e1, List.count_append, ih]
    unfold cntL
    rw [List.filter_cons]
    by_cases q : f.length = w.length + 1 ∧ subB w f = true
    · rw [count_one (walls_nd (asc_nodup hf)) ((walls_mem hf hw).mpr q)]
      simp [q.1, q.2]
      omega
    · rw [List.count_eq_zero.mpr fun z => q ((walls_mem hf hw).mp z)]
      rw [if_neg (by simpa using q)]
      omega
theorem face_asc {n : Nat} {F : List (List Nat)} (c : Cx n F) {x : List Nat} (h : x ∈ faces F) : x.Pairwise (· < ·) := by
  obtain ⟨f, hf, hs⟩ := faces_mem.mp h
  exact (c.lot f hf).asc.sublist hs
theorem face_lot {n : Nat} {F : List (List Nat)} (c : Cx n F) {x : List Nat} (h : x ∈ faces F) : Lot n x := by
  obtain ⟨f, hf, hs⟩ := faces_mem.mp h
  exact (c.lot f hf).sub hs
theorem walls_face {F : List (List Nat)} {w : List Nat} (h : w ∈ wallsL F) : w ∈ faces F := by
  simp only [wallsL, wallsOf, List.mem_flatMap, List.mem_map] at h
  obtain ⟨f, hf, p, _, rfl⟩ := h
  exact faces_mem.mpr ⟨f, hf, less_sub f _⟩
theorem walls_less {n : Nat} {F : List (List Nat)} (c : Cx n F) : wallsR F = lessR F := by
  have e1 : srtB ltL (keysE id (wallsL F) []) = (faces F).filter fun w => decide (0 < cntL F w) := by
    refine asc_ext ordL (srtB_asc ordL (keysE_nodup _ _ _ List.nodup_nil)) ((faces_asc F).filter _) fun w => ?_
    rw [srtB_mem, keysE_in, List.mem_filter]
    constructor
    · intro h
      have hw := walls_face h
      refine ⟨hw, ?_⟩
      rw [← count_walls (face_asc c hw) c.lot]
      simpa using List.count_pos_iff.mpr h
    · rintro ⟨hw, h⟩
      rw [← count_walls (face_asc c hw) c.lot] at h
      exact List.count_pos_iff.mp (by simpa using h)
  unfold wallsR lessR
  rw [e1]
  congr 1
  refine List.map_congr_left fun w hw => ?_
  rw [count_walls (face_asc c (List.mem_filter.mp hw).1) c.lot]
/-! ### tips -/
def tipP (F : List (List Nat)) (k : Nat) : Bool := decide (F ≠ []) && F.all fun f => decide (k ∈ f)
def lTipsL (n : Nat) (F : List (List Nat)) : List Nat := (List.range n).filter (tipP F)
theorem tips_eq {n : Nat} {F : List (List Nat)} (c : Cx n F) : lTipsL n F = tipsL F := by
  cases F with
  | nil => simp [lTipsL, tipsL, tipP]
  | cons f F =>
    refine asc_eq (List.pairwise_lt_range.sublist List.filter_sublist) ?_ fun x => ?_
    · simp only [tipsL]
      exact (c.lot f (List.mem_cons_self ..)).asc.sublist List.filter_sublist
    · simp only [lTipsL, tipsL, tipP, List.mem_filter, List.mem_range]
      constructor
      · rintro ⟨h1, h2⟩
        simp at h2 ⊢
        exact h2
      · rintro ⟨h1, h2⟩
        refine ⟨(c.lot f (List.mem_cons_self ..)).lt x h1, ?_⟩
        simp at h2 ⊢
        exact h2
/-! ### misses -/
theorem face_down {F : List (List Nat)} {x y : List Nat} (hx : x.Pairwise (· < ·)) (hy : y.Pairwise (· < ·)) (h : subB y x = true) (hf : x ∈ faces F) : y ∈ faces F := by
  obtain ⟨f, hf, hs⟩ := faces_mem.mp hf
  exact faces_mem.mpr ⟨f, hf, ((sub_iff hy hx).mpr (subB_iff.mp h)).trans hs⟩
theorem subs_asc {n : Nat} {x : List Nat} (h : x ∈ subs (List.range n)) : x.Pairwise (· < ·) := List.pairwise_lt_range.sublist (subs_mem.mp h)
theorem subs_less {n : Nat} {x : List Nat} (h : x ∈ subs (List.range n)) (o : List Nat) : less x o ∈ subs (List.range n) := subs_mem.mpr ((less_sub x o).trans (subs_mem.mp h))
theorem miss_eq {n : Nat} {F : List (List Nat)} (c : Cx n F) : lMissL n F = missL n F := by
  unfold lMissL missL
  rw [List.filter_filter]
  congr 1
  refine List.filter_congr fun x hx => ?_
  have ha := subs_asc hx
  unfold missP
  by_cases q : x ∈ faces F
  · simp [q]
  · have : lmP F ((subs (List.range n)).filter fun x => !decide (x ∈ faces F)) x = x.all fun p => decide (less x [p] ∈ faces F) := by
      rw [Bool.eq_iff_iff, lmP_iff, List.all_eq_true]
      constructor
      · intro h p hp
        refine decide_eq_true (Classical.byContradiction fun z => ?_)
        have h1 := h (less x [p]) (List.mem_filter.mpr ⟨subs_less hx _, by simp [z]⟩) fun e => by
          have := less_one_len (asc_nodup ha) hp
          rw [e] at this
          omega
        rw [subB_iff.mpr fun y hy => (less_sub x [p]).subset hy] at h1
        cases h1
      · intro h y hy hne
        obtain ⟨h1, h2⟩ := List.mem_filter.mp hy
        refine Bool.eq_false_iff.mpr fun hs => ?_
        have hya := subs_asc h1
        have : ∃ p ∈ x, p ∉ y := by
          refine Classical.byContradiction fun z => hne (asc_eq hya ha fun k => ⟨subB_iff.mp hs k, fun hk => Classical.byContradiction fun w => z ⟨k, hk, w⟩⟩)
        obtain ⟨p, hp, hpy⟩ := this
        have hf := of_decide_eq_true (h p hp)
        have := face_down (less_asc ha [p]) hya (subB_iff.mpr fun k hk => less_one_mem.mpr ⟨subB_iff.mp hs k hk, fun z => hpy (z ▸ hk)⟩) hf
        simp [this] at h2
    simp [q, this]
theorem miss_mem {n : Nat} {F : List (List Nat)} {x : List Nat} : x ∈ missL n F ↔ x ∈ subs (List.range n) ∧ x ∉ faces F ∧ ∀ p ∈ x, less x [p] ∈ faces F := by
  simp [missL, srtB_mem, missP]
theorem miss_in {n : Nat} {F : List (List Nat)} : ∀ (k : Nat) (x : List Nat), x.length ≤ k → x ∈ subs (List.range n) → x ∉ faces F → ∃ m ∈ missL n F, subB m x = true := by
  intro k
  induction k with
  | zero =>
    intro x hl hx hn
    have : x = [] := List.length_eq_zero_iff.mp (by omega)
    subst this
    exact ⟨[], miss_mem.mpr ⟨hx, hn, by simp⟩, rfl⟩
  | succ k ih =>
    intro x hl hx hn
    by_cases q : ∀ p ∈ x, less x [p] ∈ faces F
    · exact ⟨x, miss_mem.mpr ⟨hx, hn, q⟩, subB_refl x⟩
    · have : ∃ p ∈ x, less x [p] ∉ faces F := Classical.byContradiction fun z => q fun p hp => Classical.byContradiction fun w => z ⟨p, hp, w⟩
      obtain ⟨p, hp, hf⟩ := this
      have hlen := less_one_len (asc_nodup (subs_asc hx)) hp
      obtain ⟨m, h1, h2⟩ := ih (less x [p]) (by omega) (subs_less hx _) hf
      exact ⟨m, h1, subB_trans h2 (subB_iff.mpr fun y hy => (less_sub x [p]).subset hy)⟩
theorem miss_face {n : Nat} {F : List (List Nat)} (c : Cx n F) {x : List Nat} (hx : x ∈ subs (List.range n)) : decide (x ∈ faces F) = ((missL n F).filter fun m => subB m x).isEmpty := by
  rw [Bool.eq_iff_iff, decide_eq_true_eq, List.isEmpty_iff, List.filter_eq_nil_iff]
  constructor
  · intro h m hm hs
    obtain ⟨h1, h2, _⟩ := miss_mem.mp hm
    exact h2 (face_down (subs_asc hx) (subs_asc h1) hs h)
  · intro h
    refine Classical.byContradiction fun z => ?_
    obtain ⟨m, h1, h2⟩ := miss_in x.length x (Nat.le_refl _) hx z
    exact h m h1 h2
/-! ### a tip taken off and put back -/
def back (k : Nat) (e : List Nat) : List Nat := srtB ltN (e ++ [k])
theorem back_mem {k : Nat} {e : List Nat} {x : Nat} : x ∈ back k e ↔ x ∈ e ∨ x = k := by simp [back, srtB_mem]
theorem back_asc {k : Nat} {e : List Nat} (h : e.Pairwise (· < ·)) (hk : k ∉ e) : (back k e).Pairwise (· < ·) := (srtB_asc ordN (by
  rw [List.nodup_append]
  refine ⟨asc_nodup h, by simp, fun a ha b hb z => ?_⟩
  simp at hb
  subst hb
  subst z
  exact hk ha)).imp fun h => by simpa [ltN] using h
theorem back_less {k : Nat} {f : List Nat} (h : f.Pairwise (· < ·)) (hk : k ∈ f) : back k (less f [k]) = f := asc_eq (back_asc (less_asc h _) fun z => (less_one_mem.mp z).2 rfl) h fun x => by
  rw [back_mem, less_one_mem]
  constructor
  · rintro (h | rfl)
    · exact h.1
    · exact hk
  · intro h
    by_cases q : x = k
    · exact .inr q
    · exact .inl ⟨h, q⟩
theorem wo_mem {n : Nat} {F : List (List Nat)} (c : Cx n F) {k : Nat} (hk : ∀ f ∈ F, k ∈ f) {e : List Nat} : e ∈ maxs (woL F k) ↔ ∃ f ∈ F, less f [k] = e := by
  have hw : ∀ x, x ∈ woL F k ↔ ∃ f ∈ F, less f [k] = x := fun x => by
    simp only [woL, List.mem_map]
    constructor
    · rintro ⟨f, hf, h⟩; rw [if_pos (hk f hf)] at h; exact ⟨f, hf, h⟩
    · rintro ⟨f, hf, h⟩; exact ⟨f, hf, by rw [if_pos (hk f hf)]; exact h⟩
  rw [maxs_mem, hw]
  constructor
  · exact fun h => h.1
  · rintro ⟨f, hf, rfl⟩
    refine ⟨⟨f, hf, rfl⟩, fun y hy hs => ?_⟩
    obtain ⟨e, he, rfl⟩ := (hw y).mp hy
    have : subB f e = true := subB_iff.mpr fun x hx => by
      by_cases q : x = k
      · subst q; exact hk e he
      · exact (less_one_mem.mp (subB_iff.mp hs x (less_one_mem.mpr ⟨hx, q⟩))).1
    rw [c.anti f hf e he this]
theorem back_all {n : Nat} {F : List (List Nat)} (c : Cx n F) {k : Nat} (hk : ∀ f ∈ F, k ∈ f) : srtB ltL ((maxs (woL F k)).map (back k)) = F := by
  refine asc_ext ordL (srtB_asc ordL ?_) c.srt fun x => ?_
  · rw [List.Nodup, List.pairwise_map]
    refine List.Pairwise.imp_of_mem ?_ ((maxs_asc (woL F k)).nodup ordL)
    intro a b ha hb hab e
    obtain ⟨f, hf, rfl⟩ := (wo_mem c hk).mp ha
    obtain ⟨f', hf', rfl⟩ := (wo_mem c hk).mp hb
    rw [back_less (c.lot f hf).asc (hk f hf), back_less (c.lot f' hf').asc (hk f' hf')] at e
    exact hab (by rw [e])
  · rw [srtB_mem, List.mem_map]
    constructor
    · rintro ⟨e, he, rfl⟩
      obtain ⟨f, hf, rfl⟩ := (wo_mem c hk).mp he
      rw [back_less (c.lot f hf).asc (hk f hf)]
      exact hf
    · intro h
      exact ⟨less x [k], (wo_mem c hk).mpr ⟨x, h, rfl⟩, back_less (c.lot x h).asc (hk x h)⟩
end Pl
end

section
set_option autoImplicit false
set_option linter.all false
set_option maxRecDepth 100000
/-! PlF: one complex, told right. -/
namespace Pl
open Mini
theorem wDs_map {α : Type} (f : α → D) (b : Nat) : ∀ l : List α, (∀ x ∈ l, wD (f x) ≤ b) → wDs (l.map f) ≤ l.length * b
  | [], _ => by simp [wDs]
  | a :: l, h => by
    have h1 := h a (List.mem_cons_self ..)
    have h2 := wDs_map f b l fun x hx => h x (List.mem_cons_of_mem _ hx)
    simp only [List.map_cons, wDs, List.length_cons, Nat.add_mul]
    omega
theorem showDs_map {α : Type} (f : α → D) : ∀ l : List α, (∀ x ∈ l, showD (f x) = true) → showDs (l.map f) = true
  | [], _ => rfl
  | a :: l, h => by simp only [List.map_cons, showDs, h a (List.mem_cons_self ..), showDs_map f l fun x hx => h x (List.mem_cons_of_mem _ hx), Bool.and_self]
theorem show_nD {a : Nat} (h : a < 1000000) : showD (nD a) = true := by
  simp only [nD, showD, decide_eq_true_eq]
  have : (10 : Nat) ^ 12 = 1000000000000 := by decide
  omega
theorem wD_nD (a : Nat) : wD (nD a) = 45 := rfl
theorem wD_lD {l : List Nat} (h : l.length ≤ 10) : wD (lD l) ≤ 451 := by
  have := wDs_map nD 45 l fun x _ => Nat.le_refl _
  simp only [lD, wD]
  omega
theorem show_lD {l : List Nat} (h : ∀ x ∈ l, x < 1000000) : showD (lD l) = true := by
  simp only [lD, showD]
  exact showDs_map nD l fun x hx => show_nD (h x hx)
theorem show_LT {F : List (List Nat)} (h : ∀ l ∈ F, ∀ x ∈ l, x < 1000000) : showD (LT F) = true := by
  simp only [LT, showD]
  exact showDs_map lD F fun l hl => show_lD (h l hl)
theorem wD_LT {F : List (List Nat)} {n : Nat} (h : ∀ l ∈ F, l.length ≤ 10) (hn : F.length ≤ n) : wD (LT F) ≤ n * 451 + 1 := by
  have := wDs_map lD 451 F fun x hx => wD_lD (h x hx)
  have := Nat.mul_le_mul_right 451 hn
  simp only [LT, wD]
  omega
theorem plain_wlD (w : List Nat) (c : Nat) : plain (wlD w c) = true := by simp [wlD, plain, plains]
theorem depth_wlD (w : List Nat) (c : Nat) : depth (wlD w c) ≤ 2 := by
  have h1 := depth_lD w
  have h2 := depth_nD c
  simp only [wlD, depth, depths]
  omega
theorem plains_mapW {α : Type} (f : α → D) (h : ∀ a, plain (f a) = true) (l : List α) : plains (l.map f) = true := plains_map f h l
theorem lot_bd {n : Nat} {l : List Nat} (hn : n ≤ 10) (h : Lot n l) : l.length ≤ 10 ∧ ∀ x ∈ l, x < 1000000 := by
  have := h.len
  exact ⟨by omega, fun x hx => by have := h.lt x hx; omega⟩
theorem subs_lot {n : Nat} {x : List Nat} (h : x ∈ subs (List.range n)) : Lot n x := ⟨subs_asc h, fun y hy => List.mem_range.mp ((subs_mem.mp h).subset hy)⟩
theorem range_subs {n : Nat} (hn : n ≤ 10) : (subs (List.range n)).length ≤ 1024 := by
  rw [subs_len, List.length_range]
  exact Nat.pow_le_pow_right (by decide) hn (n := 2)
theorem faces_few {n : Nat} {F : List (List Nat)} (c : Cx n F) : (faces F).length ≤ 1024 := by
  have := lots_len (n := n) (F := faces F) (fun f hf => face_lot c hf) ((faces_asc F).nodup ordL)
  have h2 : 2 ^ n ≤ 2 ^ 10 := Nat.pow_le_pow_right (by decide) c.n10
  omega
def toldD (n : Nat) (F : List (List Nat)) : D := .lst [wallsR F, LT (partsL n F), lD (tipsL F), LT (missL n F)]
theorem tips_lot {n : Nat} {F : List (List Nat)} (c : Cx n F) : Lot n (tipsL F) := by
  rw [← tips_eq c]
  exact ⟨List.pairwise_lt_range.sublist List.filter_sublist, fun x hx => List.mem_range.mp (List.mem_filter.mp hx).1⟩
theorem miss_few {n : Nat} {F : List (List Nat)} (c : Cx n F) : (missL n F).length ≤ 1024 ∧ ∀ x ∈ missL n F, Lot n x := by
  refine ⟨?_, fun x hx => subs_lot (miss_mem.mp hx).1⟩
  have := List.length_filter_le (missP F) (subs (List.range n))
  have := range_subs c.n10
  unfold missL
  rw [srtB_length]
  omega
theorem parts_few {n : Nat} {F : List (List Nat)} (c : Cx n F) : (partsL n F).length ≤ 10 ∧ ∀ x ∈ partsL n F, Lot n x := by
  constructor
  · have := keysE_len (spread n F) (placesL n F) []
    have := List.length_filter_le (fun p => F.any (subB [p])) (List.range n)
    have := c.n10
    unfold partsL
    rw [srtB_length]
    simp only [placesL] at *
    simp at *
    omega
  · intro x hx
    simp only [partsL, srtB_mem, keysE_mem] at hx
    rcases hx with h | ⟨p, hp, rfl⟩
    · cases h
    · exact spread_lot c.lot (pl_lt hp)
theorem walls_ok {n : Nat} {F : List (List Nat)} (c : Cx n F) : plain (wallsR F) = true ∧ depth (wallsR F) ≤ 3 ∧ showD (wallsR F) = true ∧ wD (wallsR F) ≤ 508929 := by
  rw [walls_less c]
  have hc := c.len
  have hf := faces_few c
  have hl := List.length_filter_le (fun w => decide (0 < cntL F w)) (faces F)
  have hm : ∀ w ∈ (faces F).filter (fun w => decide (0 < cntL F w)), Lot n w := fun w hw => face_lot c (List.mem_filter.mp hw).1
  unfold lessR
  generalize (faces F).filter (fun w => decide (0 < cntL F w)) = L at *
  refine ⟨by simp only [plain]; exact plains_map _ (fun w => plain_wlD w _) L, ?_, ?_, ?_⟩
  · have := depths_map (fun w => wlD w (cntL F w)) 2 (fun w => depth_wlD w _) L
    simp only [depth]
    omega
  · simp only [showD]
    refine showDs_map _ L fun w hw => ?_
    have h1 : cntL F w ≤ 1024 := Nat.le_trans (List.length_filter_le _ _) hc
    show showDs [lD w, nD (cntL F w)] = true
    rw [showDs, showDs, showDs, show_lD (lot_bd c.n10 (hm w hw)).2, show_nD (a := cntL F w) (by omega)]
    rfl
  · have := wDs_map (fun w => wlD w (cntL F w)) 497 L fun w hw => by
      have := wD_lD (lot_bd c.n10 (hm w hw)).1
      simp only [wlD, wD, wDs, wD_nD]
      omega
    simp only [wD]
    omega
theorem told_ok {n : Nat} {F : List (List Nat)} (c : Cx n F) : plain (toldD n F) = true ∧ depth (toldD n F) ≤ 60 ∧ showD (toldD n F) = true ∧ wD (toldD n F) ≤ 1000000 := by
  obtain ⟨a1, a2, a3, a4⟩ := walls_ok c
  obtain ⟨b1, b2⟩ := miss_few c
  obtain ⟨d1, d2⟩ := parts_few c
  have ht := lot_bd c.n10 (tips_lot c)
  have e1 := wD_LT (F := missL n F) (n := 1024) (fun l hl => (lot_bd c.n10 (b2 l hl)).1) b1
  have e2 := wD_LT (F := partsL n F) (n := 10) (fun l hl => (lot_bd c.n10 (d2 l hl)).1) d1
  have e3 := wD_lD ht.1
  have g1 := depth_LT (missL n F)
  have g2 := depth_LT (partsL n F)
  have g3 := depth_lD (tipsL F)
  refine ⟨by simp [toldD, plain, plains, a1], ?_, ?_, ?_⟩
  · simp only [toldD, depth, depths]
    omega
  · simp only [toldD, showD, showDs, a3, show_lD ht.2, show_LT (F := missL n F) (fun l hl => (lot_bd c.n10 (b2 l hl)).2), show_LT (F := partsL n F) (fun l hl => (lot_bd c.n10 (d2 l hl)).2), Bool.and_self]
  · simp only [toldD, wD, wDs]
    omega
theorem cx_ok {n : Nat} {F : List (List Nat)} (c : Cx n F) : plain (cD n F) = true ∧ depth (cD n F) ≤ 60 ∧ showD (cD n F) = true ∧ wD (cD n F) ≤ 1000000 := by
  have e1 := wD_LT (F := F) (n := 1024) (fun l hl => (lot_bd c.n10 (c.lot l hl)).1) c.len
  have g1 := depth_cD n F
  have hn := c.n10
  refine ⟨plain_cD n F, by omega, ?_, ?_⟩
  · show showDs [nD n, LT F] = true
    rw [showDs, showDs, showDs, show_nD (a := n) (by omega), show_LT (F := F) (fun l hl => (lot_bd c.n10 (c.lot l hl)).2)]
    rfl
  · simp only [cD, wD, wDs, wD_nD]
    omega
theorem iso_all {α : Type} (p : α → Bool) (l : List α) : (l.filter fun x => !p x).isEmpty = l.all p := by
  induction l with
  | nil => rfl
  | cons a l ih =>
    rw [List.filter_cons, List.all_cons]
    cases p a with
    | false => rfl
    | true => simpa using ih
def SLRight (call : CallF) (k : Nat) : Prop := ∀ n F st, Cx n F → call k [cD n F] st = some (.bl true, st)
section
variable {C : Cfg} {g h : Nat → Nat} {st : St}
theorem r42 (h18 : SWalls C.call (g 18)) (h20 : SParts C.call (g 20)) (h21 : STips C.call (g 21)) (h23 : SMiss C.call (g 23)) (h33 : SLike C.call (g 33)) (h39 : SLOne C.call (g 39)) (h40 : SLParts C.call (g 40)) (h41 : SLMiss C.call (g 41)) (h37 : SFaces C.call (g 37)) (h34 : SSubs C.call (g 34)) (h35 : SLLies C.call (g 35)) (h17 : SWo C.call (g 17))
    (n : Nat) (F : List (List Nat)) (c : Cx n F) : R C (TL.f42 g h) [cD n F] st = some (.bl true, st) := by
  have hn := c.n10
  have hlen := c.len
  have h0 : (0 : Nat) ≤ LIM := by decide
  have h1 : (1 : Nat) ≤ LIM := by decide
  have h2 : (2 : Nat) ≤ LIM := by decide
  have h4 : (4 : Nat) ≤ LIM := by decide
  refine fin_step (env' := [Sl.sh (cD n F), Sl.sh (nD n), .un, .un, .un, .un, .un, .un, .un, .un]) (st' := st) ?_ ?_
  · simp [startE, TL.f42, setV]
  refine fin_step (env' := [Sl.sh (cD n F), Sl.sh (nD n), Sl.sh (NL (tipsL F)), .un, .un, .un, .un, .un, .un, .un]) (st' := st) ?_ ?_
  · simp [rng_nD n st (by omega)]
    rw [lc_map nD (tipP F) nD (by simp; omega)]
    · rw [show D.lst (((List.range n).filter (tipP F)).map nD) = NL (lTipsL n F) from rfl, tips_eq c]
      simp [setV]
    · intro k hk
      refine ⟨_, rfl, ?_, by simp⟩
      simp [h0]
      by_cases q : F = []
      · simp [q, tipP]
      · simp [q]
        rw [lc_map lD (fun f => !decide (k ∈ f)) (fun _ => .int 1) (by omega)]
        · simp only [Option.bind_some]
          rw [eq_ones]
          have et : (F.filter fun f => !decide (k ∈ f)).isEmpty = tipP F k := by
            rw [iso_all]
            simp [tipP, q]
          rw [et]
          cases tipP F k <;> rfl
        · intro f hf
          refine ⟨_, rfl, ?_, by simp⟩
          simp
          by_cases z : k ∈ f <;> simp [z]
  refine fin_step (env' := [Sl.sh (cD n F), Sl.sh (nD n), Sl.sh (NL (tipsL F)), Sl.sh (LT (missL n F)), .un, .un, .un, .un, .un, .un]) (st' := st) ?_ ?_
  · simp [setV, h41 n F st c, miss_eq c]
  refine fin_step (env' := [Sl.sh (cD n F), Sl.sh (nD n), Sl.sh (NL (tipsL F)), Sl.sh (LT (missL n F)), Sl.sh (toldD n F), .un, .un, .un, .un, .un]) (st' := st) ?_ ?_
  · simp [setV, h18 n F st c, h20 n F st c, h21 n F st c, h23 n F st c, permD, h4]
    rfl
  refine fin_step (env' := [Sl.sh (cD n F), Sl.sh (nD n), Sl.sh (NL (tipsL F)), Sl.sh (LT (missL n F)), Sl.sh (toldD n F), .un, .un, .un, .un, .un]) (st' := st) ?_ ?_
  · obtain ⟨a1, a2, a3, a4⟩ := told_ok c
    have hl := h33 (toldD n F) st a1 a2 a3 a4
    simp [h39 n F st c, h40 n F st c, h4, ← walls_less c]
    rw [show D.lst [wallsR F, LT (partsL n F), lD (tipsL F), LT (missL n F)] = toldD n F from rfl, hl]
    simp
  refine fin_step (env' := [Sl.sh (cD n F), Sl.sh (nD n), Sl.sh (NL (tipsL F)), Sl.sh (LT (missL n F)), Sl.sh (toldD n F), Sl.sh (LL (faces F)), .un, .un, .un, .un]) (st' := st) ?_ ?_
  · simp [setV, h37 n F st c]
  rw [ss_cons, s_for]
  have hit : evE C false (.call (g 34) (.cons (.bi .tuple (.cons (.rng1 (.var 1)) .nil)) .nil)) [Sl.sh (cD n F), Sl.sh (nD n), Sl.sh (NL (tipsL F)), Sl.sh (LT (missL n F)), Sl.sh (toldD n F), Sl.sh (LL (faces F)), .un, .un, .un, .un] st = some (LL (subs (List.range n)), st) := by
    simp [rng_nD n st (by omega), h34 (List.range n) st (by simpa using hn)]
  rw [hit]
  simp only [Option.bind_some, seq_LL]
  refine inv_fin lD (fun rem env s => ∃ pre v6 v9, pre ++ rem = subs (List.range n) ∧ env = [Sl.sh (cD n F), Sl.sh (nD n), Sl.sh (NL (tipsL F)), Sl.sh (LT (missL n F)), Sl.sh (toldD n F), Sl.sh (LL (faces F)), v6, .un, .un, v9] ∧ st = s) ⟨[], _, _, rfl, rfl, rfl⟩ ?_ ?_
  · rintro x rem env s ⟨pre, v6, v9, e, rfl, rfl⟩
    have hx : x ∈ subs (List.range n) := by rw [← e]; simp
    obtain ⟨b1, b2⟩ := miss_few c
    refine ⟨[Sl.sh (cD n F), Sl.sh (nD n), Sl.sh (NL (tipsL F)), Sl.sh (LT (missL n F)), Sl.sh (toldD n F), Sl.sh (LL (faces F)), Sl.sh (lD x), .un, .un, v9], st, ?_, pre ++ [x], _, _, by simp [e], rfl, rfl⟩
    simp [setV, h0]
    rw [lc_map lD (fun m => subB m x) (fun _ => .int 1) (by omega)]
    · simp only [Option.bind_some]
      rw [eq_ones, ← miss_face c hx]
      have enb : ∀ b : Bool, cmpD .ne (.bl b) (.bl b) = some false := fun b => by cases b <;> rfl
      simp [enb]
    · intro m hm
      refine ⟨_, rfl, ?_, by simp⟩
      simp [h35 m x st (by have := (lot_bd c.n10 (b2 m hm)).1; omega)]
      by_cases q : subB m x = true <;> simp [q]
  · rintro env s ⟨pre, v6, v9, e, rfl, rfl⟩
    show fin (evSs C _ _ _) = _
    rw [ss_cons, s_for]
    have hit : evE C false (.var 2) [Sl.sh (cD n F), Sl.sh (nD n), Sl.sh (NL (tipsL F)), Sl.sh (LT (missL n F)), Sl.sh (toldD n F), Sl.sh (LL (faces F)), v6, .un, .un, v9] st = some (NL (tipsL F), st) := by simp
    rw [hit]
    simp only [Option.bind_some, seq_NL]
    refine inv_fin nD (fun rem env s => ∃ pre v6 v7 v8, pre ++ rem = tipsL F ∧ env = [Sl.sh (cD n F), Sl.sh (nD n), Sl.sh (NL (tipsL F)), Sl.sh (LT (missL n F)), Sl.sh (toldD n F), Sl.sh (LL (faces F)), v6, v7, v8, v9] ∧ st = s) ⟨[], _, _, _, rfl, rfl, rfl⟩ ?_ ?_
    · rintro k rem env s ⟨pre, v6, v7, v8, e, rfl, rfl⟩
      have hk : k ∈ tipsL F := by rw [← e]; simp
      have hkn : k < n := (tips_lot c).lt k hk
      rw [← tips_eq c] at hk
      have hkF : ∀ f ∈ F, k ∈ f := fun f hf => by
        have := (List.mem_filter.mp hk).2
        simp [tipP] at this
        exact this.2 f hf
      refine ⟨[Sl.sh (cD n F), Sl.sh (nD n), Sl.sh (NL (tipsL F)), Sl.sh (LT (missL n F)), Sl.sh (toldD n F), Sl.sh (LL (faces F)), v6, Sl.sh (nD k), Sl.sh (cD n (maxs (woL F k))), v9], st, ?_, pre ++ [k], _, _, _, by simp [e], rfl, rfl⟩
      have hm : ∀ e ∈ maxs (woL F k), Lot n e := fun e he => by
        obtain ⟨f, hf, rfl⟩ := (wo_mem c hkF).mp he
        exact (c.lot f hf).sub (less_sub f _)
      have hml : (maxs (woL F k)).length ≤ 1024 := by
        have := lots_len hm ((maxs_asc _).nodup ordL)
        have h2 : 2 ^ n ≤ 2 ^ 10 := Nat.pow_le_pow_right (by decide) c.n10
        omega
      have hw := h17 n F k st c hkn
      simp only [lD, List.map_cons, List.map_nil] at hw
      simp [setV, h1, hw]
      rw [lc_all lD (fun e => lD (back k e)) (by omega)]
      · have eb : D.lst ((maxs (woL F k)).map fun e => lD (back k e)) = LL ((maxs (woL F k)).map (back k)) := by simp [LL, Function.comp_def]
        obtain ⟨a1, a2, a3, a4⟩ := cx_ok c
        have hl := h33 (cD n F) st a1 a2 a3 a4
        rw [eb]
        simp [back_all c hkF, h2]
        rw [show D.tup [nD n, LT F] = cD n F from rfl, hl]
        simp
      · intro e he
        refine ⟨_, rfl, by simp, ?_⟩
        simp [h1, snoc_D e k (by have := (lot_bd c.n10 (hm e he)).1; omega), back]
    · rintro env s ⟨pre, v6, v7, v8, e, rfl, rfl⟩
      simp
end
end Pl
end

section
set_option autoImplicit false
set_option linter.all false
set_option maxRecDepth 100000
/-! PlG: the values told by hand. -/
namespace Pl
open Mini
def wlP (p : List Nat × Nat) : D := wlD p.1 p.2
def wallsN (F : List (List Nat)) : List (List Nat × Nat) := (srtB ltL (keysE id (wallsL F) [])).map fun w => (w, (wallsL F).count w)
theorem wallsN_eq (F : List (List Nat)) : wallsR F = .tup ((wallsN F).map wlP) := by
  simp [wallsR, wallsN, wlP, Function.comp_def]
theorem told_of {n : Nat} {F : List (List Nat)} {W : List (List Nat × Nat)} {P M : List (List Nat)} {T : List Nat} (hw : wallsN F = W) (hp : partsL n F = P) (ht : tipsL F = T) (hm : missL n F = M) : toldD n F = .lst [.tup (W.map wlP), LT P, lD T, LT M] := by
  rw [toldD, wallsN_eq, hw, hp, ht, hm]
def F4 : List (List Nat) := [[0, 1], [0, 3], [1, 2], [2, 3]]
def F6 : List (List Nat) := [[0, 1, 2], [3, 4]]
theorem told2 : toldD 2 [] = .lst [.tup (([] : List (List Nat × Nat)).map wlP), LT [], lD [], LT [[]]] := told_of (by decide +kernel) (by decide +kernel) (by decide +kernel) (by decide +kernel)
theorem told2e : toldD 2 [[]] = .lst [.tup (([] : List (List Nat × Nat)).map wlP), LT [], lD [], LT [[0], [1]]] := told_of (by decide +kernel) (by decide +kernel) (by decide +kernel) (by decide +kernel)
theorem told3 : toldD 3 [[0, 1, 2]] = .lst [.tup ([([0, 1], 1), ([0, 2], 1), ([1, 2], 1)].map wlP), LT [[0, 1, 2]], lD [0, 1, 2], LT []] := told_of (by decide +kernel) (by decide +kernel) (by decide +kernel) (by decide +kernel)
theorem told4 : toldD 4 F4 = .lst [.tup ([([0], 2), ([1], 2), ([2], 2), ([3], 2)].map wlP), LT [[0, 1, 2, 3]], lD [], LT [[0, 2], [1, 3]]] := told_of (by decide +kernel) (by decide +kernel) (by decide +kernel) (by decide +kernel)
theorem told6 : toldD 6 F6 = .lst [.tup ([([0, 1], 1), ([0, 2], 1), ([1, 2], 1), ([3], 1), ([4], 1)].map wlP), LT [[0, 1, 2], [3, 4]], lD [], LT [[0, 3], [0, 4], [1, 3], [1, 4], [2, 3], [2, 4], [5]]] := told_of (by decide +kernel) (by decide +kernel) (by decide +kernel) (by decide +kernel)
theorem cx_of {n : Nat} {F : List (List Nat)} (h1 : decide (1 ≤ n ∧ n ≤ 10 ∧ (∀ f ∈ F, f.Pairwise (· < ·) ∧ ∀ x ∈ f, x < n) ∧ F.Pairwise (fun a b => ltL a b = true) ∧ ∀ f ∈ F, ∀ e ∈ F, subB f e = true → f = e) = true) : Cx n F := by
  obtain ⟨a, b, c, d, e⟩ := of_decide_eq_true h1
  exact ⟨a, b, fun f hf => ⟨(c f hf).1, (c f hf).2⟩, d, e⟩
theorem cx2 : Cx 2 [] := cx_of (by decide +kernel)
theorem cx2e : Cx 2 [[]] := cx_of (by decide +kernel)
theorem cx3 : Cx 3 [[0, 1, 2]] := cx_of (by decide +kernel)
theorem cx4 : Cx 4 F4 := cx_of (by decide +kernel)
theorem cx6 : Cx 6 F6 := cx_of (by decide +kernel)
def handL : List (Nat × List (List Nat)) := [(2, []), (2, [[]]), (3, [[0, 1, 2]]), (4, F4), (6, F6)]
theorem hand_cx : ∀ p ∈ handL, Cx p.1 p.2 := by
  intro p hp
  simp only [handL, List.mem_cons, List.not_mem_nil, or_false] at hp
  rcases hp with rfl | rfl | rfl | rfl | rfl
  · exact cx2
  · exact cx2e
  · exact cx3
  · exact cx4
  · exact cx6
def handD : D := .lst (handL.map fun p => toldD p.1 p.2)
theorem hand_ok : plain handD = true ∧ depth handD ≤ 60 ∧ showD handD = true ∧ wD handD ≤ 1000000 := by
  simp only [handD, handL, List.map_cons, List.map_nil, told2, told2e, told3, told4, told6]
  refine ⟨?_, ?_, ?_, ?_⟩
  · simp [plain, plains, LT, lD, wlP, wlD, nD]
  · simp [depth, depths, LT, lD, wlP, wlD, nD]
  · simp [showD, showDs, LT, lD, wlP, wlD, nD]
  · simp [wD, wDs, LT, lD, wlP, wlD, nD]
theorem cone_tip {n : Nat} {F : List (List Nat)} (c : Cx n F) (h9 : n ≤ 9) (h : F ≠ []) : n ∈ tipsL (coneL n F) := by
  rw [← tips_eq (cone_cx c h9), lTipsL, List.mem_filter]
  refine ⟨by simp, ?_⟩
  have hne : coneL n F ≠ [] := by
    intro z
    cases F with
    | nil => exact h rfl
    | cons f F =>
      have : f ++ [n] ∈ coneL n (f :: F) := cone_mem.mpr ⟨f, List.mem_cons_self .., rfl⟩
      rw [z] at this
      cases this
  simp only [tipP, Bool.and_eq_true, decide_eq_true_eq, List.all_eq_true]
  refine ⟨hne, fun x hx => ?_⟩
  obtain ⟨f, _, rfl⟩ := cone_mem.mp hx
  simp
end Pl
end

section
set_option autoImplicit false
set_option linter.all false
set_option maxRecDepth 100000
/-! PlH: the law. -/
namespace Pl
open Mini
def pC (p : Nat × List (List Nat)) : D := cD p.1 p.2
def SLaw (call : CallF) (k : Nat) : Prop := ∀ (xs : List Int), xs.length ≤ 63 → ∃ st', call k [.lst (xs.map iD)] [] = some (.bl true, st')
section
variable {C : Cfg} {g h : Nat → Nat} {st : St}
theorem cmp_lt_nD (a : Nat) (j : Int) : cmpD .lt (nD a) (.int j) = some (decide ((a : Int) < j)) := cmp_lt a j
/-- what is seen at one turn -/
theorem some_list (h29 : SCone C.call (g 29)) (h28 : SBes C.call (g 28)) {w v : Nat} {F G : List (List Nat)} (c : Cx w F) (d : Cx v G) (hw : w ≤ 7) (hv : v ≤ 3) {v0 v1 v2 v3 v4 v5 v6 v7 v8 v11 v12 : Sl} :
    ∃ L : List (Nat × List (List Nat)), (∀ p ∈ L, Cx p.1 p.2) ∧ L.length ≤ 4 ∧
      evE C false (.bin .add (.lst (.cons (.var 9) (.cons (.call (g 29) (.cons (.var 10) .nil)) (.cons (.call (g 29) (.cons (.call (g 29) (.cons (.var 10) .nil)) .nil)) .nil)))) (.ife (.cmp .lt (.ix (.var 9) (.cst (.int 0))) (.cst (.int 5))) (.lst (.cons (.call (g 28) (.cons (.var 9) (.cons (.var 10) .nil))) .nil)) (.lst .nil))) [v0, v1, v2, v3, v4, v5, v6, v7, v8, Sl.sh (cD w F), Sl.sh (cD v G), v11, v12] st = some (.lst (L.map pC), st) := by
  have l0 : (0 : Nat) ≤ LIM := by decide
  have l1 : (1 : Nat) ≤ LIM := by decide
  have l3 : (3 : Nat) ≤ LIM := by decide
  have d1 := cone_cx d (by omega)
  have d2 := cone_cx d1 (by omega)
  by_cases q : (w : Int) < 5
  · refine ⟨[(w, F), (v + 1, coneL v G), (v + 1 + 1, coneL (v + 1) (coneL v G)), (w + v, besL w F G)], ?_, by simp, ?_⟩
    · intro p hp
      simp only [List.mem_cons, List.not_mem_nil, or_false] at hp
      rcases hp with rfl | rfl | rfl | rfl
      · exact c
      · exact d1
      · exact d2
      · exact maxs_cx (by have := c.n1; omega) (by omega) (bes_lots c d)
    · simp [h29 v G st d (by omega), h29 (v + 1) (coneL v G) st d1 (by omega), h28 w F v G st c d (by omega), cmp_lt_nD, q, l0, l1, l3, pC, bin_addL]
  · refine ⟨[(w, F), (v + 1, coneL v G), (v + 1 + 1, coneL (v + 1) (coneL v G))], ?_, by simp, ?_⟩
    · intro p hp
      simp only [List.mem_cons, List.not_mem_nil, or_false] at hp
      rcases hp with rfl | rfl | rfl
      · exact c
      · exact d1
      · exact d2
    · simp [h29 v G st d (by omega), h29 (v + 1) (coneL v G) st d1 (by omega), cmp_lt_nD, q, l0, l1, l3, pC, bin_addL]
theorem all_right (h42 : SLRight C.call (g 42)) {L : List (Nat × List (List Nat))} (hL : ∀ p ∈ L, Cx p.1 p.2) (hz : L.length ≤ 4) {v0 v1 v2 v3 v4 v5 v7 v8 v9 v10 v11 v12 : Sl} {r : T} :
    evS C (.ifs (.cmp .ne (.lc [11] (.cst (.int 1)) (.var 11) (.var 6) (.cons (.nt (.call (g 42) (.cons (.var 11) .nil))) .nil)) (.lst .nil)) r .nil) [v0, v1, v2, v3, v4, v5, Sl.sh (.lst (L.map pC)), v7, v8, v9, v10, v11, v12] st = some (.nx, [v0, v1, v2, v3, v4, v5, Sl.sh (.lst (L.map pC)), v7, v8, v9, v10, v11, v12], st) := by
  have l0 : (0 : Nat) ≤ LIM := by decide
  simp [l0]
  rw [lc_map pC (fun _ => false) (fun _ => .int 1) (by omega)]
  · simp only [Option.bind_some]
    rw [ne_ones]
    simp
  · intro p hp
    refine ⟨_, rfl, ?_, by simp⟩
    have := h42 p.1 p.2 st (hL p hp)
    simp [pC, this]
theorem tip_right (h29 : SCone C.call (g 29)) (h21 : STips C.call (g 21)) {w : Nat} {F : List (List Nat)} (c : Cx w F) (hw : w ≤ 7) {v0 v1 v2 v3 v4 v5 v6 v7 v8 v10 v11 v12 : Sl} {r : T} :
    evS C (.ifs (.and (.cmp .nmem (.ix (.var 9) (.cst (.int 0))) (.call (g 21) (.cons (.call (g 29) (.cons (.var 9) .nil)) .nil))) (.cmp .ne (.ix (.var 9) (.cst (.int 1))) (.tup .nil))) r .nil) [v0, v1, v2, v3, v4, v5, v6, v7, v8, Sl.sh (cD w F), v10, v11, v12] st = some (.nx, [v0, v1, v2, v3, v4, v5, v6, v7, v8, Sl.sh (cD w F), v10, v11, v12], st) := by
  have l0 : (0 : Nat) ≤ LIM := by decide
  simp [l0, h29 w F st c (by omega), h21 (w + 1) (coneL w F) st (cone_cx c (by omega))]
  by_cases q : F = []
  · by_cases z : w ∈ tipsL (coneL w F) <;> simp [q, z]
  · have := cone_tip c (by omega) q
    simp [q, this]
end
end Pl
end

section
set_option autoImplicit false
set_option linter.all false
set_option maxRecDepth 100000
/-! PlI: the law's walk. -/
namespace Pl
open Mini
section
variable {C : Cfg} {g h : Nat → Nat} {st : St}
theorem r43 (h30 : SBegun C.call (g 30)) (h38 : SSome C.call (g 38)) (h32 : SOf C.call (g 32)) (h29 : SCone C.call (g 29)) (h28 : SBes C.call (g 28)) (h42 : SLRight C.call (g 42)) (h18 : SWalls C.call (g 18)) (h20 : SParts C.call (g 20)) (h21 : STips C.call (g 21)) (h23 : SMiss C.call (g 23)) (h33 : SLike C.call (g 33))
    (xs : List Int) (hx : xs.length ≤ 63) : ∃ st', R C (TL.f43 g h) [.lst (xs.map iD)] st = some (.bl true, st') := by
  have l0 : (0 : Nat) ≤ LIM := by decide
  have l1 : (1 : Nat) ≤ LIM := by decide
  have l2 : (2 : Nat) ≤ LIM := by decide
  have l3 : (3 : Nat) ≤ LIM := by decide
  have l4 : (4 : Nat) ≤ LIM := by decide
  have l5 : (5 : Nat) ≤ LIM := by decide
  suffices hs : ∃ x, fin (evSs C (TL.f43 g h).body (startE (TL.f43 g h) [.lst (xs.map iD)]) st) = some x ∧ x.1 = .bl true by
    obtain ⟨⟨d, st'⟩, e, rfl⟩ := hs
    exact ⟨st', e⟩
  have hst : startE (TL.f43 g h) [.lst (xs.map iD)] = [Sl.sh (.lst (xs.map iD)), .un, .un, .un, .un, .un, .un, .un, .un, .un, .un, .un, .un] := rfl
  rw [hst]
  obtain ⟨r, hr, er⟩ : ∃ r : Nat, r ≤ 2 ∧ biD .min2 [.int 2, .int (xs.map iD).length] = some (nD r) := by
    by_cases q : (xs.map iD).length < 2
    · exact ⟨(xs.map iD).length, by omega, by simp only [biD]; rw [if_pos (by omega)]⟩
    · exact ⟨2, by omega, by simp only [biD]; rw [if_neg (by omega)]; rfl⟩
  have hit : evE C false (.rng1 (.bin .add (.cst (.int 1)) (.bi .min2 (.cons (.cst (.int 2)) (.cons (.bi .len (.cons (.var 0) .nil)) .nil))))) [Sl.sh (.lst (xs.map iD)), .un, .un, .un, .un, .un, .un, .un, .un, .un, .un, .un, .un] st = some (NL (List.range (r + 1)), st) := by
    refine e_rngN (eN_add1 ?_) (by omega)
    have el : biD .len [.lst (xs.map iD)] = some (.int (xs.map iD).length) := rfl
    simp [-List.length_map, el, er]
  show ∃ x, fin (evSs C (.cons (.for_ _ _ _) _) _ _) = some x ∧ _
  rw [ss_cons, s_for, hit]
  simp only [Option.bind_some, seq_NL]
  refine inv_finZ nD (fun rem env s => (∃ pre, pre ++ rem = List.range (r + 1)) ∧ ∃ v1 v5 v6 v9 v10, env = [Sl.sh (.lst (xs.map iD)), v1, .un, .un, .un, v5, v6, .un, .un, v9, v10, .un, .un]) ⟨⟨[], rfl⟩, _, _, _, _, _, rfl⟩ ?_ ?_
  · rintro t rem env s ⟨⟨pre, e⟩, v1, v5, v6, v9, v10, rfl⟩
    have ht : t < r + 1 := List.mem_range.mp (by rw [← e]; simp)
    obtain ⟨s1, e1, m1⟩ := h30 xs t s hx (by omega)
    obtain ⟨x, s2, hx2, e2, m2⟩ := h32 _ 0 s1 [.int 5, .int 6, .int 7] m1 (by simp) (by simp) (by omega)
    obtain ⟨k, rfl, hk1, hk7⟩ : ∃ k : Nat, x = nD k ∧ 1 ≤ k ∧ k ≤ 7 := by
      simp only [List.mem_cons, List.not_mem_nil, or_false] at hx2
      rcases hx2 with rfl | rfl | rfl
      · exact ⟨5, rfl, by omega, by omega⟩
      · exact ⟨6, rfl, by omega, by omega⟩
      · exact ⟨7, rfl, by omega, by omega⟩
    obtain ⟨w, F, s3, hw, c, e3, m3⟩ := h38 _ _ s2 k m2 hk1 (by omega) (by omega)
    obtain ⟨v, G, s4, hv, d, e4, m4⟩ := h38 _ _ s3 3 m3 (by omega) (by omega) (by omega)
    have e4 : C.call (g 38) [.ref s.length, .int 3] s3 = some (cD v G, s4) := e4
    obtain ⟨L, hL, hz, e5⟩ := some_list (st := s4) (v0 := Sl.sh (.lst (xs.map iD))) (v1 := Sl.sh (nD t)) (v2 := .un) (v3 := .un) (v4 := .un) (v5 := Sl.sh (.ref s.length)) (v6 := v6) (v7 := .un) (v8 := .un) (v11 := .un) (v12 := .un) h29 h28 c d (by omega) hv
    refine ⟨[Sl.sh (.lst (xs.map iD)), Sl.sh (nD t), .un, .un, .un, Sl.sh (.ref s.length), Sl.sh (.lst (L.map pC)), .un, .un, Sl.sh (cD w F), Sl.sh (cD v G), .un, .un], s4, ?_, ⟨pre ++ [t], by simp [e]⟩, _, _, _, _, _, rfl⟩
    show (some _).bind _ = _
    simp only [Option.bind_some]
    refine ss_step (env' := [Sl.sh (.lst (xs.map iD)), Sl.sh (nD t), .un, .un, .un, Sl.sh (.ref s.length), v6, .un, .un, v9, v10, .un, .un]) (st' := s1) (sI_asg (by simp [e1]) (by simp)) ?_
    refine ss_step (env' := [Sl.sh (.lst (xs.map iD)), Sl.sh (nD t), .un, .un, .un, Sl.sh (.ref s.length), v6, .un, .un, Sl.sh (cD w F), Sl.sh (cD v G), .un, .un]) (st' := s4) (sI_par2 (by simp) (by simp) (s1 := s3) (by simp [e2, e3, l3]) (by simp [e4]) (by simp) (by simp)) ?_
    refine ss_step (env' := [Sl.sh (.lst (xs.map iD)), Sl.sh (nD t), .un, .un, .un, Sl.sh (.ref s.length), Sl.sh (.lst (L.map pC)), .un, .un, Sl.sh (cD w F), Sl.sh (cD v G), .un, .un]) (st' := s4) (sI_asg e5 (by simp)) ?_
    refine ss_step (all_right h42 hL hz) ?_
    refine ss_step (tip_right h29 h21 c (by omega)) ?_
    simp
  · rintro env s ⟨_, v1, v5, v6, v9, v10, rfl⟩
    show ∃ x, fin (evSs C _ _ _) = some x ∧ _
    refine fin_stepZ (env' := [Sl.sh (.lst (xs.map iD)), v1, .un, .un, .un, v5, v6, Sl.sh (cD 4 F4), Sl.sh (cD 6 F6), v9, v10, .un, .un]) (st' := s) ?_ ?_
    · exact sI_par2 (by simp) (by simp) (s1 := s) (x := cD 4 F4) (y := cD 6 F6) (by simp [l2, l4]; rfl) (by simp [l2, l3]; rfl) (by simp) (by simp)
    refine fin_stepZ (env' := [Sl.sh (.lst (xs.map iD)), v1, Sl.sh handD, .un, .un, v5, v6, Sl.sh (cD 4 F4), Sl.sh (cD 6 F6), v9, v10, .un, .un]) (st' := s) ?_ ?_
    · refine sI_asg (d := handD) ?_ (by simp)
      have hsrc : evE C true (.tup (.cons (.tup (.cons (.cst (.int 2)) (.cons (.tup .nil) .nil))) (.cons (.tup (.cons (.cst (.int 2)) (.cons (.tup (.cons (.tup .nil) .nil)) .nil))) (.cons (.tup (.cons (.cst (.int 3)) (.cons (.tup (.cons (.tup (.cons (.cst (.int 0)) (.cons (.cst (.int 1)) (.cons (.cst (.int 2)) .nil)))) .nil)) .nil))) (.cons (.var 7) (.cons (.var 8) .nil)))))) [Sl.sh (.lst (xs.map iD)), v1, .un, .un, .un, v5, v6, Sl.sh (cD 4 F4), Sl.sh (cD 6 F6), v9, v10, .un, .un] s = some (.tup (handL.map pC), s) := by
        simp [l0, l1, l2, l3, l5]
        rfl
      rw [e_lc, hsrc]
      simp only [Option.bind_some]
      show (some (handL.map pC)).bind _ = _
      simp only [Option.bind_some]
      rw [lc_all pC (fun p => toldD p.1 p.2) (by decide)]
      · rfl
      · intro p hp
        have c := hand_cx p hp
        refine ⟨_, rfl, by simp, ?_⟩
        have hs2 : evE C true (.tup (.cons (.fnv (g 18)) (.cons (.fnv (g 20)) (.cons (.fnv (g 21)) (.cons (.fnv (g 23)) .nil))))) [Sl.sh (.lst (xs.map iD)), v1, .un, .un, .un, v5, v6, Sl.sh (cD 4 F4), Sl.sh (cD 6 F6), v9, v10, Sl.sh (pC p), .un] s = some (.tup ([18, 20, 21, 23].map fun k => D.fn (g k)), s) := by
          simp [l4]
        show one (evE C false _ [Sl.sh (.lst (xs.map iD)), v1, .un, .un, .un, v5, v6, Sl.sh (cD 4 F4), Sl.sh (cD 6 F6), v9, v10, Sl.sh (pC p), .un] s) = _
        rw [e_lc, hs2]
        simp only [Option.bind_some]
        show one ((some ([18, 20, 21, 23].map fun k => D.fn (g k))).bind _) = _
        simp only [Option.bind_some]
        rw [lc_all (fun k => D.fn (g k)) (fun k => if k = 18 then wallsR p.2 else if k = 20 then LT (partsL p.1 p.2) else if k = 21 then lD (tipsL p.2) else LT (missL p.1 p.2)) (by decide)]
        · rfl
        · intro k hk
          refine ⟨_, rfl, by simp, ?_⟩
          simp only [List.mem_cons, List.not_mem_nil, or_false] at hk
          rcases hk with rfl | rfl | rfl | rfl
          · simp [pC, h18 p.1 p.2 s c]
          · simp [pC, h20 p.1 p.2 s c]
          · simp [pC, h21 p.1 p.2 s c]
          · simp [pC, h23 p.1 p.2 s c]
    refine fin_stepZ (env' := [Sl.sh (.lst (xs.map iD)), v1, Sl.sh handD, Sl.ow (.lst [toldD 2 [], toldD 2 [[]], toldD 3 [[0, 1, 2]]]), .un, v5, v6, Sl.sh (cD 4 F4), Sl.sh (cD 6 F6), v9, v10, .un, .un]) (st' := s) ?_ ?_
    · simp [l0, l1, l2, l3, l4]
      rw [told2, told2e, told3]
      exact ⟨rfl, rfl⟩
    refine fin_stepZ (env' := [Sl.sh (.lst (xs.map iD)), v1, Sl.sh handD, Sl.ow (.lst [toldD 2 [], toldD 2 [[]], toldD 3 [[0, 1, 2]], toldD 4 F4]), .un, v5, v6, Sl.sh (cD 4 F4), Sl.sh (cD 6 F6), v9, v10, .un, .un]) (st' := s) ?_ ?_
    · simp [l0, l1, l2, l3, l4]
      rw [told4]
      exact app_ow (xs := [toldD 2 [], toldD 2 [[]], toldD 3 [[0, 1, 2]]]) rfl (by decide)
    refine fin_stepZ (env' := [Sl.sh (.lst (xs.map iD)), v1, Sl.sh handD, Sl.ow (.lst [toldD 2 [], toldD 2 [[]], toldD 3 [[0, 1, 2]], toldD 4 F4]), Sl.sh (wallsR F6), v5, v6, Sl.sh (cD 4 F4), Sl.sh (cD 6 F6), v9, v10, .un, .un]) (st' := s) ?_ ?_
    · simp [l0, l1, l2, l3, l4, l5]
      rw [wallsN_eq, show wallsN F6 = [([0, 1], 1), ([0, 2], 1), ([1, 2], 1), ([3], 1), ([4], 1)] from by decide +kernel]
      rfl
    refine fin_stepZ (env' := [Sl.sh (.lst (xs.map iD)), v1, Sl.sh handD, Sl.ow handD, Sl.sh (wallsR F6), v5, v6, Sl.sh (cD 4 F4), Sl.sh (cD 6 F6), v9, v10, .un, .un]) (st' := s) ?_ ?_
    · have l7 : (7 : Nat) ≤ LIM := by decide
      have l6 : (6 : Nat) ≤ LIM := by decide
      have e6 : toldD 6 F6 = .lst [wallsR F6, LT [[0, 1, 2], [3, 4]], lD [], LT [[0, 3], [0, 4], [1, 3], [1, 4], [2, 3], [2, 4], [5]]] := by
        rw [toldD, show partsL 6 F6 = [[0, 1, 2], [3, 4]] from by decide +kernel, show tipsL F6 = [] from by decide +kernel, show missL 6 F6 = [[0, 3], [0, 4], [1, 3], [1, 4], [2, 3], [2, 4], [5]] from by decide +kernel]
      have eh : handD = .lst ([toldD 2 [], toldD 2 [[]], toldD 3 [[0, 1, 2]], toldD 4 F4] ++ [toldD 6 F6]) := rfl
      rw [eh, e6]
      simp [l0, l1, l2, l3, l4, l5, l6, l7]
      exact app_ow (xs := [toldD 2 [], toldD 2 [[]], toldD 3 [[0, 1, 2]], toldD 4 F4]) rfl (by decide)
    refine fin_stepZ (env' := [Sl.sh (.lst (xs.map iD)), v1, Sl.sh handD, Sl.sh handD, Sl.sh (wallsR F6), v5, v6, Sl.sh (cD 4 F4), Sl.sh (cD 6 F6), v9, v10, .un, .un]) (st' := s) ?_ ?_
    · simp [fzX]
    obtain ⟨a1, a2, a3, a4⟩ := hand_ok
    have hl := h33 handD s a1 a2 a3 a4
    refine ⟨(.bl true, s), ?_, rfl⟩
    simp [hl]
end
end Pl
end

section
set_option autoImplicit false
set_option linter.all false
set_option maxRecDepth 100000
/-! PlJ: from def to def. -/
namespace Pl
open Mini
theorem t0 : T08.f0 = TL.f0 id id := rfl
theorem t1 : T08.f1 = TL.f1 id id := rfl
theorem t2 : T08.f2 = TL.f2 id id := rfl
theorem t3 : T08.f3 = TL.f3 id id := rfl
theorem t4 : T08.f4 = TL.f4 id id := rfl
theorem t5 : T08.f5 = TL.f5 id id := rfl
theorem t6 : T08.f6 = TL.f6 id id := rfl
theorem t7 : T08.f7 = TL.f7 id id := rfl
theorem t8 : T08.f8 = TL.f8 id id := rfl
theorem t9 : T08.f9 = TL.f9 id id := rfl
theorem t10 : T08.f10 = TL.f10 id id := rfl
theorem t11 : T08.f11 = TL.f11 id id := rfl
theorem t12 : T08.f12 = TL.f12 id id := rfl
theorem t13 : T08.f13 = TL.f13 id id := rfl
theorem t14 : T08.f14 = TL.f14 id id := rfl
theorem t15 : T08.f15 = TL.f15 id id := rfl
theorem t16 : T08.f16 = TL.f16 id id := rfl
theorem t17 : T08.f17 = TL.f17 id id := rfl
theorem t18 : T08.f18 = TL.f18 id id := rfl
theorem t19 : T08.f19 = TL.f19 id id := rfl
theorem t20 : T08.f20 = TL.f20 id id := rfl
theorem t21 : T08.f21 = TL.f21 id id := rfl
theorem t22 : T08.f22 = TL.f22 id id := rfl
theorem t23 : T08.f23 = TL.f23 id id := rfl
theorem t24 : T08.f24 = TL.f24 id id := rfl
theorem t25 : T08.f25 = TL.f25 id id := rfl
theorem t26 : T08.f26 = TL.f26 id id := rfl
theorem t27 : T08.f27 = TL.f27 id id := rfl
theorem t28 : T08.f28 = TL.f28 id id := rfl
theorem t29 : T08.f29 = TL.f29 id id := rfl
theorem t30 : T08.f30 = TL.f30 id id := rfl
theorem t31 : T08.f31 = TL.f31 id id := rfl
theorem t32 : T08.f32 = TL.f32 id id := rfl
theorem t33 : T08.f33 = TL.f33 id id := rfl
theorem t34 : T08.f34 = TL.f34 id id := rfl
theorem t35 : T08.f35 = TL.f35 id id := rfl
theorem t36 : T08.f36 = TL.f36 id id := rfl
theorem t37 : T08.f37 = TL.f37 id id := rfl
theorem t38 : T08.f38 = TL.f38 id id := rfl
theorem t39 : T08.f39 = TL.f39 id id := rfl
theorem t40 : T08.f40 = TL.f40 id id := rfl
theorem t41 : T08.f41 = TL.f41 id id := rfl
theorem t42 : T08.f42 = TL.f42 id id := rfl
theorem t43 : T08.f43 = TL.f43 id id := rfl
theorem c0 (d : Nat) : SInt (callP T08.P (d + 1)) 0 := by
  unfold SInt
  intros
  rw [call_R (F := T08.f0) rfl rfl, t0]
  apply r0 (C := ⟨T08.consts, callP T08.P (d + 0)⟩) (g := id) (h := id)  <;> assumption
theorem c1 (d : Nat) : SFrom (callP T08.P (d + 2)) 1 := by
  have h0 : SInt (callP T08.P (d + 1)) 0 := c0 (d + 0)
  unfold SFrom
  intros
  rw [call_R (F := T08.f1) rfl rfl, t1]
  apply r1 (C := ⟨T08.consts, callP T08.P (d + 1)⟩) (g := id) (h := id) h0 <;> assumption
theorem c2 (d : Nat) : SLot (callP T08.P (d + 3)) 2 := by
  have h1 : SFrom (callP T08.P (d + 2)) 1 := c1 (d + 0)
  unfold SLot
  intros
  rw [call_R (F := T08.f2) rfl rfl, t2]
  apply r2 (C := ⟨T08.consts, callP T08.P (d + 2)⟩) (g := id) (h := id) h1 <;> assumption
theorem c3 (d : Nat) : SNLot (callP T08.P (d + 4)) 3 := by
  have h2 : SLot (callP T08.P (d + 3)) 2 := c2 (d + 0)
  unfold SNLot
  intros
  rw [call_R (F := T08.f3) rfl rfl, t3]
  apply r3 (C := ⟨T08.consts, callP T08.P (d + 3)⟩) (g := id) (h := id) h2 <;> assumption
theorem c4 (d : Nat) : SLies (callP T08.P (d + 1)) 4 := by
  unfold SLies
  intros
  rw [call_R (F := T08.f4) rfl rfl, t4]
  apply r4 (C := ⟨T08.consts, callP T08.P (d + 0)⟩) (g := id) (h := id)  <;> assumption
theorem c5 (d : Nat) : SFacets (callP T08.P (d + 4)) 5 := by
  have h2 : SLot (callP T08.P (d + 3)) 2 := c2 (d + 0)
  have h4 : SLies (callP T08.P (d + 3)) 4 := c4 (d + 2)
  unfold SFacets
  intros
  rw [call_R (F := T08.f5) rfl rfl, t5]
  apply r5 (C := ⟨T08.consts, callP T08.P (d + 3)⟩) (g := id) (h := id) h2 h4 <;> assumption
theorem c6 (d : Nat) : SFault (callP T08.P (d + 5)) 6 := by
  have h1 : SFrom (callP T08.P (d + 4)) 1 := c1 (d + 2)
  have h5 : SFacets (callP T08.P (d + 4)) 5 := c5 (d + 0)
  unfold SFault
  intros
  rw [call_R (F := T08.f6) rfl rfl, t6]
  apply r6 (C := ⟨T08.consts, callP T08.P (d + 4)⟩) (g := id) (h := id) h1 h5 rfl <;> assumption
theorem c7 (d : Nat) : SNeed (callP T08.P (d + 6)) 7 := by
  have h6 : SFault (callP T08.P (d + 5)) 6 := c6 (d + 0)
  unfold SNeed
  intros
  rw [call_R (F := T08.f7) rfl rfl, t7]
  apply r7 (C := ⟨T08.consts, callP T08.P (d + 5)⟩) (g := id) (h := id) h6 <;> assumption
theorem c8 (d : Nat) : SNeeds (callP T08.P (d + 7)) 8 := by
  have h7 : SNeed (callP T08.P (d + 6)) 7 := c7 (d + 0)
  unfold SNeeds
  intros
  rw [call_R (F := T08.f8) rfl rfl, t8]
  apply r8 (C := ⟨T08.consts, callP T08.P (d + 6)⟩) (g := id) (h := id) h7 <;> assumption
theorem c9 (d : Nat) : SGreat (callP T08.P (d + 2)) 9 := by
  have h4 : SLies (callP T08.P (d + 1)) 4 := c4 (d + 0)
  unfold SGreat
  intros
  rw [call_R (F := T08.f9) rfl rfl, t9]
  apply r9 (C := ⟨T08.consts, callP T08.P (d + 1)⟩) (g := id) (h := id) h4 <;> assumption
theorem c10 (d : Nat) : SCxIn (callP T08.P (d + 3)) 10 := by
  have h9 : SGreat (callP T08.P (d + 2)) 9 := c9 (d + 0)
  unfold SCxIn
  intros
  rw [call_R (F := T08.f10) rfl rfl, t10]
  apply r10 (C := ⟨T08.consts, callP T08.P (d + 2)⟩) (g := id) (h := id) h9 <;> assumption
theorem c11 (d : Nat) : SSubs (callP T08.P (d + 1)) 11 := by
  unfold SSubs
  intros
  rw [call_R (F := T08.f11) rfl rfl, t11]
  apply r11 (C := ⟨T08.consts, callP T08.P (d + 0)⟩) (g := id) (h := id)  <;> assumption
theorem c12 (d : Nat) : SFaces (callP T08.P (d + 2)) 12 := by
  have h11 : SSubs (callP T08.P (d + 1)) 11 := c11 (d + 0)
  unfold SFaces
  intros
  rw [call_R (F := T08.f12) rfl rfl, t12]
  apply r12 (C := ⟨T08.consts, callP T08.P (d + 1)⟩) (g := id) (h := id) h11 <;> assumption
theorem c13 (d : Nat) : SFaceIn (callP T08.P (d + 2)) 13 := by
  have h4 : SLies (callP T08.P (d + 1)) 4 := c4 (d + 0)
  unfold SFaceIn
  intros
  rw [call_R (F := T08.f13) rfl rfl, t13]
  apply r13 (C := ⟨T08.consts, callP T08.P (d + 1)⟩) (g := id) (h := id) h4 <;> assumption
theorem c14 (d : Nat) : SPlaces (callP T08.P (d + 3)) 14 := by
  have h13 : SFaceIn (callP T08.P (d + 2)) 13 := c13 (d + 0)
  unfold SPlaces
  intros
  rw [call_R (F := T08.f14) rfl rfl, t14]
  apply r14 (C := ⟨T08.consts, callP T08.P (d + 2)⟩) (g := id) (h := id) h13 <;> assumption
theorem c15 (d : Nat) : SLess (callP T08.P (d + 1)) 15 := by
  unfold SLess
  intros
  rw [call_R (F := T08.f15) rfl rfl, t15]
  apply r15 (C := ⟨T08.consts, callP T08.P (d + 0)⟩) (g := id) (h := id)  <;> assumption
theorem c16 (d : Nat) : SWoIn (callP T08.P (d + 4)) 16 := by
  have h4 : SLies (callP T08.P (d + 3)) 4 := c4 (d + 2)
  have h15 : SLess (callP T08.P (d + 3)) 15 := c15 (d + 2)
  have h10 : SCxIn (callP T08.P (d + 3)) 10 := c10 (d + 0)
  unfold SWoIn
  intros
  rw [call_R (F := T08.f16) rfl rfl, t16]
  apply r16 (C := ⟨T08.consts, callP T08.P (d + 3)⟩) (g := id) (h := id) h4 h15 h10 <;> assumption
theorem c17 (d : Nat) : SWo (callP T08.P (d + 7)) 17 := by
  have h7 : SNeed (callP T08.P (d + 6)) 7 := c7 (d + 0)
  have h3 : SNLot (callP T08.P (d + 6)) 3 := c3 (d + 2)
  have h16 : SWoIn (callP T08.P (d + 6)) 16 := c16 (d + 2)
  unfold SWo
  intros
  rw [call_R (F := T08.f17) rfl rfl, t17]
  apply r17 (C := ⟨T08.consts, callP T08.P (d + 6)⟩) (g := id) (h := id) h7 h3 h16 <;> assumption
theorem c18 (d : Nat) : SWalls (callP T08.P (d + 7)) 18 := by
  have h7 : SNeed (callP T08.P (d + 6)) 7 := c7 (d + 0)
  have h15 : SLess (callP T08.P (d + 6)) 15 := c15 (d + 5)
  unfold SWalls
  intros
  rw [call_R (F := T08.f18) rfl rfl, t18]
  apply r18 (C := ⟨T08.consts, callP T08.P (d + 6)⟩) (g := id) (h := id) h7 h15 <;> assumption
theorem c19 (d : Nat) : SSpread (callP T08.P (d + 1)) 19 := by
  unfold SSpread
  intros
  rw [call_R (F := T08.f19) rfl rfl, t19]
  apply r19 (C := ⟨T08.consts, callP T08.P (d + 0)⟩) (g := id) (h := id)  <;> assumption
theorem c20 (d : Nat) : SParts (callP T08.P (d + 7)) 20 := by
  have h7 : SNeed (callP T08.P (d + 6)) 7 := c7 (d + 0)
  have h14 : SPlaces (callP T08.P (d + 6)) 14 := c14 (d + 3)
  have h19 : SSpread (callP T08.P (d + 6)) 19 := c19 (d + 5)
  unfold SParts
  intros
  rw [call_R (F := T08.f20) rfl rfl, t20]
  apply r20 (C := ⟨T08.consts, callP T08.P (d + 6)⟩) (g := id) (h := id) h7 h14 h19 <;> assumption
theorem c21 (d : Nat) : STips (callP T08.P (d + 7)) 21 := by
  have h7 : SNeed (callP T08.P (d + 6)) 7 := c7 (d + 0)
  unfold STips
  intros
  rw [call_R (F := T08.f21) rfl rfl, t21]
  apply r21 (C := ⟨T08.consts, callP T08.P (d + 6)⟩) (g := id) (h := id) h7 <;> assumption
theorem c22 (d : Nat) : SMissIn (callP T08.P (d + 3)) 22 := by
  have h12 : SFaces (callP T08.P (d + 2)) 12 := c12 (d + 0)
  have h11 : SSubs (callP T08.P (d + 2)) 11 := c11 (d + 1)
  have h15 : SLess (callP T08.P (d + 2)) 15 := c15 (d + 1)
  unfold SMissIn
  intros
  rw [call_R (F := T08.f22) rfl rfl, t22]
  apply r22 (C := ⟨T08.consts, callP T08.P (d + 2)⟩) (g := id) (h := id) h12 h11 h15 <;> assumption
theorem c23 (d : Nat) : SMiss (callP T08.P (d + 7)) 23 := by
  have h7 : SNeed (callP T08.P (d + 6)) 7 := c7 (d + 0)
  have h22 : SMissIn (callP T08.P (d + 6)) 22 := c22 (d + 3)
  unfold SMiss
  intros
  rw [call_R (F := T08.f23) rfl rfl, t23]
  apply r23 (C := ⟨T08.consts, callP T08.P (d + 6)⟩) (g := id) (h := id) h7 h22 <;> assumption
theorem c24 (d : Nat) : SBehind (callP T08.P (d + 1)) 24 := by
  unfold SBehind
  intros
  rw [call_R (F := T08.f24) rfl rfl, t24]
  apply r24 (C := ⟨T08.consts, callP T08.P (d + 0)⟩) (g := id) (h := id)  <;> assumption
theorem c24p (d : Nat) : SBehindP (callP T08.P (d + 1)) 24 := by
  unfold SBehindP
  intros
  rw [call_R (F := T08.f24) rfl rfl, t24]
  apply r24p (C := ⟨T08.consts, callP T08.P (d + 0)⟩) (g := id) (h := id)  <;> assumption
theorem c25 (d : Nat) : SLet (callP T08.P (d + 1)) 25 := by
  unfold SLet
  intros
  rw [call_R (F := T08.f25) rfl rfl, t25]
  apply r25 (C := ⟨T08.consts, callP T08.P (d + 0)⟩) (g := id) (h := id) rfl <;> assumption
theorem c26 (d : Nat) : SJoinP (callP T08.P (d + 2)) 26 := by
  have h25 : SLet (callP T08.P (d + 1)) 25 := c25 (d + 0)
  have h24p : SBehindP (callP T08.P (d + 1)) 24 := c24p (d + 0)
  unfold SJoinP
  intros
  rw [call_R (F := T08.f26) rfl rfl, t26]
  apply r26 (C := ⟨T08.consts, callP T08.P (d + 1)⟩) (g := id) (h := id) h25 h24p <;> assumption
theorem c27 (d : Nat) : SBes (callP T08.P (d + 4)) 27 := by
  have h25 : SLet (callP T08.P (d + 3)) 25 := c25 (d + 2)
  have h24 : SBehind (callP T08.P (d + 3)) 24 := c24 (d + 2)
  have h10 : SCxIn (callP T08.P (d + 3)) 10 := c10 (d + 0)
  unfold SBes
  intros
  rw [call_R (F := T08.f27) rfl rfl, t27]
  apply r27 (C := ⟨T08.consts, callP T08.P (d + 3)⟩) (g := id) (h := id) h25 h24 h10 <;> assumption
theorem c28 (d : Nat) : SBes (callP T08.P (d + 8)) 28 := by
  have h8 : SNeeds (callP T08.P (d + 7)) 8 := c8 (d + 0)
  have h27 : SBes (callP T08.P (d + 7)) 27 := c27 (d + 3)
  unfold SBes
  intros
  rw [call_R (F := T08.f28) rfl rfl, t28]
  apply r28 (C := ⟨T08.consts, callP T08.P (d + 7)⟩) (g := id) (h := id) h8 h27 <;> assumption
theorem c29 (d : Nat) : SCone (callP T08.P (d + 7)) 29 := by
  have h7 : SNeed (callP T08.P (d + 6)) 7 := c7 (d + 0)
  have h26 : SJoinP (callP T08.P (d + 6)) 26 := c26 (d + 4)
  unfold SCone
  intros
  rw [call_R (F := T08.f29) rfl rfl, t29]
  apply r29 (C := ⟨T08.consts, callP T08.P (d + 6)⟩) (g := id) (h := id) rfl h7 h26 <;> assumption
theorem c30 (d : Nat) : SBegun (callP T08.P (d + 1)) 30 := by
  unfold SBegun
  intros
  rw [call_R (F := T08.f30) rfl rfl, t30]
  apply r30 (C := ⟨T08.consts, callP T08.P (d + 0)⟩) (g := id) (h := id)  <;> assumption
theorem c31 (d : Nat) : SDraw (callP T08.P (d + 1)) 31 := by
  unfold SDraw
  intros
  rw [call_R (F := T08.f31) rfl rfl, t31]
  apply r31 (C := ⟨T08.consts, callP T08.P (d + 0)⟩) (g := id) (h := id)  <;> assumption
theorem c32 (d : Nat) : SOf (callP T08.P (d + 2)) 32 := by
  have h31 : SDraw (callP T08.P (d + 1)) 31 := c31 (d + 0)
  unfold SOf
  intros
  rw [call_R (F := T08.f32) rfl rfl, t32]
  apply r32 (C := ⟨T08.consts, callP T08.P (d + 1)⟩) (g := id) (h := id) h31 <;> assumption
theorem c33 (d : Nat) : SLike (callP T08.P (d + 1)) 33 := by
  unfold SLike
  intros
  rw [call_R (F := T08.f33) rfl rfl, t33]
  apply r33 (C := ⟨T08.consts, callP T08.P (d + 0)⟩) (g := id) (h := id)  <;> assumption
theorem c34 (d : Nat) : SSubs (callP T08.P (d + 1)) 34 := by
  unfold SSubs
  intros
  rw [call_R (F := T08.f34) rfl rfl, t34]
  apply r34 (C := ⟨T08.consts, callP T08.P (d + 0)⟩) (g := id) (h := id)  <;> assumption
theorem c35 (d : Nat) : SLLies (callP T08.P (d + 1)) 35 := by
  unfold SLLies
  intros
  rw [call_R (F := T08.f35) rfl rfl, t35]
  apply r35 (C := ⟨T08.consts, callP T08.P (d + 0)⟩) (g := id) (h := id)  <;> assumption
theorem c36 (d : Nat) : SLGreat (callP T08.P (d + 2)) 36 := by
  have h35 : SLLies (callP T08.P (d + 1)) 35 := c35 (d + 0)
  unfold SLGreat
  intros
  rw [call_R (F := T08.f36) rfl rfl, t36]
  apply r36 (C := ⟨T08.consts, callP T08.P (d + 1)⟩) (g := id) (h := id) h35 <;> assumption
theorem c37 (d : Nat) : SFaces (callP T08.P (d + 2)) 37 := by
  have h34 : SSubs (callP T08.P (d + 1)) 34 := c34 (d + 0)
  unfold SFaces
  intros
  rw [call_R (F := T08.f37) rfl rfl, t37]
  apply r37 (C := ⟨T08.consts, callP T08.P (d + 1)⟩) (g := id) (h := id) h34 <;> assumption
theorem c38 (d : Nat) : SSome (callP T08.P (d + 3)) 38 := by
  have h31 : SDraw (callP T08.P (d + 2)) 31 := c31 (d + 1)
  have h32 : SOf (callP T08.P (d + 2)) 32 := c32 (d + 0)
  have h36 : SLGreat (callP T08.P (d + 2)) 36 := c36 (d + 0)
  unfold SSome
  intros
  rw [call_R (F := T08.f38) rfl rfl, t38]
  apply r38 (C := ⟨T08.consts, callP T08.P (d + 2)⟩) (g := id) (h := id) h31 h32 h36 <;> assumption
theorem c39 (d : Nat) : SLOne (callP T08.P (d + 3)) 39 := by
  have h37 : SFaces (callP T08.P (d + 2)) 37 := c37 (d + 0)
  have h35 : SLLies (callP T08.P (d + 2)) 35 := c35 (d + 1)
  unfold SLOne
  intros
  rw [call_R (F := T08.f39) rfl rfl, t39]
  apply r39 (C := ⟨T08.consts, callP T08.P (d + 2)⟩) (g := id) (h := id) h37 h35 <;> assumption
theorem c40 (d : Nat) : SLParts (callP T08.P (d + 3)) 40 := by
  have h37 : SFaces (callP T08.P (d + 2)) 37 := c37 (d + 0)
  unfold SLParts
  intros
  rw [call_R (F := T08.f40) rfl rfl, t40]
  apply r40 (C := ⟨T08.consts, callP T08.P (d + 2)⟩) (g := id) (h := id) h37 <;> assumption
theorem c41 (d : Nat) : SLMiss (callP T08.P (d + 3)) 41 := by
  have h37 : SFaces (callP T08.P (d + 2)) 37 := c37 (d + 0)
  have h34 : SSubs (callP T08.P (d + 2)) 34 := c34 (d + 1)
  have h35 : SLLies (callP T08.P (d + 2)) 35 := c35 (d + 1)
  unfold SLMiss
  intros
  rw [call_R (F := T08.f41) rfl rfl, t41]
  apply r41 (C := ⟨T08.consts, callP T08.P (d + 2)⟩) (g := id) (h := id) h37 h34 h35 <;> assumption
theorem c42 (d : Nat) : SLRight (callP T08.P (d + 8)) 42 := by
  have h18 : SWalls (callP T08.P (d + 7)) 18 := c18 (d + 0)
  have h20 : SParts (callP T08.P (d + 7)) 20 := c20 (d + 0)
  have h21 : STips (callP T08.P (d + 7)) 21 := c21 (d + 0)
  have h23 : SMiss (callP T08.P (d + 7)) 23 := c23 (d + 0)
  have h33 : SLike (callP T08.P (d + 7)) 33 := c33 (d + 6)
  have h39 : SLOne (callP T08.P (d + 7)) 39 := c39 (d + 4)
  have h40 : SLParts (callP T08.P (d + 7)) 40 := c40 (d + 4)
  have h41 : SLMiss (callP T08.P (d + 7)) 41 := c41 (d + 4)
  have h37 : SFaces (callP T08.P (d + 7)) 37 := c37 (d + 5)
  have h34 : SSubs (callP T08.P (d + 7)) 34 := c34 (d + 6)
  have h35 : SLLies (callP T08.P (d + 7)) 35 := c35 (d + 6)
  have h17 : SWo (callP T08.P (d + 7)) 17 := c17 (d + 0)
  unfold SLRight
  intros
  rw [call_R (F := T08.f42) rfl rfl, t42]
  apply r42 (C := ⟨T08.consts, callP T08.P (d + 7)⟩) (g := id) (h := id) h18 h20 h21 h23 h33 h39 h40 h41 h37 h34 h35 h17 <;> assumption
theorem c43 (d : Nat) : SLaw (callP T08.P (d + 9)) 43 := by
  have h30 : SBegun (callP T08.P (d + 8)) 30 := c30 (d + 7)
  have h38 : SSome (callP T08.P (d + 8)) 38 := c38 (d + 5)
  have h32 : SOf (callP T08.P (d + 8)) 32 := c32 (d + 6)
  have h29 : SCone (callP T08.P (d + 8)) 29 := c29 (d + 1)
  have h28 : SBes (callP T08.P (d + 8)) 28 := c28 (d + 0)
  have h42 : SLRight (callP T08.P (d + 8)) 42 := c42 (d + 0)
  have h18 : SWalls (callP T08.P (d + 8)) 18 := c18 (d + 1)
  have h20 : SParts (callP T08.P (d + 8)) 20 := c20 (d + 1)
  have h21 : STips (callP T08.P (d + 8)) 21 := c21 (d + 1)
  have h23 : SMiss (callP T08.P (d + 8)) 23 := c23 (d + 1)
  have h33 : SLike (callP T08.P (d + 8)) 33 := c33 (d + 7)
  unfold SLaw
  intros
  rw [call_R (F := T08.f43) rfl rfl, t43]
  apply r43 (C := ⟨T08.consts, callP T08.P (d + 8)⟩) (g := id) (h := id) h30 h38 h32 h29 h28 h42 h18 h20 h21 h23 h33 <;> assumption
theorem plain (xs : List Int) (hx : xs.length ≤ 63) : ∃ st, callP T08.P 12 43 [.lst (xs.map .int)] [] = some (.bl true, st) := c43 3 xs hx
end Pl
end
theorem PySem.Challenge.cw_stairfaces_k08_walls_parts_tips_holds : PySem.Challenge.rw_stairfaces_k08_walls_parts_tips.Holds := by
  exact E08.holds Pl.plain
